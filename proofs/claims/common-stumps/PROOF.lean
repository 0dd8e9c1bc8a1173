import PyProof.Rows.All
import Wide.All
import OpenK.AllK
import Wide.FinOn
import HandS.ForMost
import HandS.Walk
import HandS.Deep
import HandS.IsInst
import HandS.Zip
import HandS.Rev
import HandS.TupAny
import KE.GoesMore
import KE.GoesEnum
import PyProof.EqLayable
import PyProof.P3Statements
import HandS.Sort
import PyProof.Rows.SortKeyStr
import HandS.RevTup
import PyProof.ListRange
import PySem.Challenge.RW_turnery_k35_whole_common_stumps
set_option Elab.async false
set_option linter.all false
set_option maxRecDepth 100000
set_option maxHeartbeats 1000000
/-! A data-level logic over the hand layer: slots hold data, an own list, or the deck. -/
namespace DL
open PySem PySem.Spec PyProof.Rows L2

/-! ### data at a heap -/
mutual
inductive Dd (H : Hp) : V → PyData → Prop
  | non : Dd H .non .none
  | bl (b : Bool) : Dd H (.bl b) (.bool b)
  | int (i : Int) : Dd H (.int i) (.int i)
  | str (x : Str) : Dd H (.str x) (.str x)
  | lst {a : Addr} {xs : List V} {ds : List PyData} : H a = some (.lst xs) → Dds H xs ds → Dd H (.ref a) (.list ds)
  | tup {a : Addr} {xs : List V} {ds : List PyData} : H a = some (.tup xs) → Dds H xs ds → Dd H (.ref a) (.tuple ds)
inductive Dds (H : Hp) : List V → List PyData → Prop
  | nil : Dds H [] []
  | cons {v : V} {vs : List V} {d : PyData} {ds : List PyData} : Dd H v d → Dds H vs ds → Dds H (v :: vs) (d :: ds)
end
mutual
theorem Dd.mono {H H' : Hp} (e : Same H H') : ∀ (d : PyData) (v : V), Dd H v d → Dd H' v d
  | .none, _, h => by cases h; exact .non
  | .bool b, _, h => by cases h; exact .bl b
  | .int i, _, h => by cases h; exact .int i
  | .str x, _, h => by cases h; exact .str x
  | .list ds, _, h => by
    cases h with
    | lst h1 h2 => exact .lst (e _ _ h1) (Dds.mono e ds _ h2)
  | .tuple ds, _, h => by
    cases h with
    | tup h1 h2 => exact .tup (e _ _ h1) (Dds.mono e ds _ h2)
  | .dict _, _, h => by cases h
theorem Dds.mono {H H' : Hp} (e : Same H H') : ∀ (ds : List PyData) (vs : List V), Dds H vs ds → Dds H' vs ds
  | [], _, h => by cases h; exact .nil
  | d :: ds, _, h => by
    cases h with
    | cons h1 h2 => exact .cons (Dd.mono e d _ h1) (Dds.mono e ds _ h2)
end
mutual
theorem Dd.dp {K : PySem.W.Frag} {H : Hp} : ∀ (d : PyData) (v : V), Dd H v d → Dp K H v d
  | .none, _, h => by cases h; exact .non
  | .bool b, _, h => by cases h; exact .bl b
  | .int i, _, h => by cases h; exact .int i
  | .str x, _, h => by cases h; exact .str x
  | .list ds, _, h => by
    cases h with
    | lst h1 h2 => exact .lst (.inl (.inl h1)) (Dds.dp ds _ h2)
  | .tuple ds, _, h => by
    cases h with
    | tup h1 h2 => exact .tup (.inl (.inl h1)) (Dds.dp ds _ h2)
  | .dict _, _, h => by cases h
theorem Dds.dp {K : PySem.W.Frag} {H : Hp} : ∀ (ds : List PyData) (vs : List V), Dds H vs ds → DpAll K H vs ds
  | [], _, h => by cases h; exact .nil
  | d :: ds, _, h => by
    cases h with
    | cons h1 h2 => exact .cons (Dd.dp d _ h1) (Dds.dp ds _ h2)
end
theorem Dds.length {H : Hp} : ∀ {ds : List PyData} {vs : List V}, Dds H vs ds → vs.length = ds.length
  | [], _, h => by cases h; rfl
  | d :: ds, _, h => by
    cases h with
    | cons h1 h2 => simp [Dds.length h2]
theorem Dds.get {H : Hp} : ∀ {ds : List PyData} {vs : List V} {i : Nat} {d : PyData}, Dds H vs ds → ds[i]? = some d → ∃ v, vs[i]? = some v ∧ Dd H v d
  | [], _, _, _, _, e => by simp at e
  | d :: ds, _, 0, _, h, e => by
    cases h with
    | cons h1 h2 => simp at e; subst e; exact ⟨_, rfl, h1⟩
  | d :: ds, _, i + 1, _, h, e => by
    cases h with
    | cons h1 h2 =>
      obtain ⟨v, q1, q2⟩ := Dds.get h2 (i := i) (by simpa using e)
      exact ⟨v, by simpa using q1, q2⟩
theorem Dds.append {H : Hp} : ∀ {ds es : List PyData} {vs ws : List V}, Dds H vs ds → Dds H ws es → Dds H (vs ++ ws) (ds ++ es)
  | [], _, _, _, h, k => by cases h; exact k
  | d :: ds, _, _, _, h, k => by
    cases h with
    | cons h1 h2 => exact .cons h1 (Dds.append h2 k)
theorem Dds.one {H : Hp} {v : V} {d : PyData} (h : Dd H v d) : Dds H [v] [d] := .cons h .nil
theorem Dds.set {H : Hp} : ∀ {ds : List PyData} {vs : List V} {i : Nat} {v : V} {d : PyData}, Dds H vs ds → Dd H v d → Dds H (vs.set i v) (ds.set i d)
  | [], _, _, _, _, h, _ => by cases h; exact .nil
  | d :: ds, _, 0, _, _, h, k => by
    cases h with
    | cons h1 h2 => exact .cons k h2
  | d :: ds, _, i + 1, _, _, h, k => by
    cases h with
    | cons h1 h2 => exact .cons h1 (Dds.set h2 k)
theorem Dds.drop {H : Hp} : ∀ {ds : List PyData} {vs : List V} (n : Nat), Dds H vs ds → Dds H (vs.drop n) (ds.drop n)
  | _, _, 0, h => by simpa using h
  | [], _, n + 1, h => by cases h; exact .nil
  | d :: ds, _, n + 1, h => by
    cases h with
    | cons h1 h2 => exact Dds.drop n h2
theorem Dds.take {H : Hp} : ∀ {ds : List PyData} {vs : List V} (n : Nat), Dds H vs ds → Dds H (vs.take n) (ds.take n)
  | _, _, 0, _ => .nil
  | [], _, n + 1, h => by cases h; exact .nil
  | d :: ds, _, n + 1, h => by
    cases h with
    | cons h1 h2 => exact .cons h1 (Dds.take n h2)
theorem Dds.ints {H : Hp} : ∀ ns : List Int, Dds H (ns.map V.int) (ns.map PyData.int)
  | [] => .nil
  | n :: ns => .cons (.int n) (Dds.ints ns)
theorem Dds.ints_inv {H : Hp} : ∀ {ns : List Int} {vs : List V}, Dds H vs (ns.map PyData.int) → vs = ns.map V.int
  | [], _, h => by cases h; rfl
  | n :: ns, _, h => by
    cases h with
    | cons h1 h2 => cases h1; rw [Dds.ints_inv h2] <;> rfl
theorem Dd.int_inv {H : Hp} {v : V} {i : Int} (h : Dd H v (.int i)) : v = .int i := by cases h; rfl
theorem Dd.bl_inv {H : Hp} {v : V} {b : Bool} (h : Dd H v (.bool b)) : v = .bl b := by cases h; rfl
theorem Dd.str_inv {H : Hp} {v : V} {x : Str} (h : Dd H v (.str x)) : v = .str x := by cases h; rfl
theorem Dd.tup_inv {H : Hp} {v : V} {ds : List PyData} (h : Dd H v (.tuple ds)) : ∃ a xs, v = .ref a ∧ H a = some (.tup xs) ∧ Dds H xs ds := by cases h; exact ⟨_, _, rfl, by assumption, by assumption⟩
theorem Dd.lst_inv {H : Hp} {v : V} {ds : List PyData} (h : Dd H v (.list ds)) : ∃ a xs, v = .ref a ∧ H a = some (.lst xs) ∧ Dds H xs ds := by cases h; exact ⟨_, _, rfl, by assumption, by assumption⟩

/-! ### what is known: the heap without S -/
open Classical in
noncomputable def Kn (S : Addr → Prop) (H : Hp) : Hp := fun b => if S b then none else H b
theorem kn_some {S : Addr → Prop} {H : Hp} {b : Addr} {o : HO} : Kn S H b = some o ↔ ¬ S b ∧ H b = some o := by
  unfold Kn
  by_cases h : S b
  · rw [if_pos h]; exact ⟨fun z => (nomatch z), fun z => absurd h z.1⟩
  · rw [if_neg h]; exact ⟨fun z => ⟨h, z⟩, fun z => z.2⟩
theorem kn_le {S : Addr → Prop} {H : Hp} : Same (Kn S H) H := fun _ _ e => (kn_some.mp e).2
theorem kn_same {S : Addr → Prop} {H H' : Hp} (e : Same H H') : Same (Kn S H) (Kn S H') := fun b o h => kn_some.mpr ⟨(kn_some.mp h).1, e _ _ (kn_some.mp h).2⟩
theorem kn_anti {S T : Addr → Prop} {H : Hp} (e : ∀ b, T b → S b) : Same (Kn S H) (Kn T H) := fun b o h => kn_some.mpr ⟨fun z => (kn_some.mp h).1 (e b z), (kn_some.mp h).2⟩
def add (S : Addr → Prop) (p : Addr) : Addr → Prop := fun b => b = p ∨ S b
def del (S : Addr → Prop) (p : Addr) : Addr → Prop := fun b => b ≠ p ∧ S b
theorem kn_add {S : Addr → Prop} {H : Hp} {p : Addr} {o : HO} (h : H p = none) : Same (Kn S H) (Kn (add S p) (upd H p o)) := fun b u e => by
  obtain ⟨e1, e2⟩ := kn_some.mp e
  have hb : b ≠ p := ne_of_none e2 h
  exact kn_some.mpr ⟨fun z => z.elim hb e1, by rw [upd_ne hb]; exact e2⟩
theorem same_upd {H : Hp} {p : Addr} {o : HO} (h : H p = none) : Same H (upd H p o) := fun b u e => by rw [upd_ne (ne_of_none e h)]; exact e
/-- an object of S may change -/
theorem kn_mut {S : Addr → Prop} {H : Hp} {p : Addr} {o : HO} (h : S p) : Same (Kn S H) (Kn S (upd H p o)) := fun b u e => by
  obtain ⟨e1, e2⟩ := kn_some.mp e
  have hb : b ≠ p := fun z => e1 (z ▸ h)
  exact kn_some.mpr ⟨e1, by rw [upd_ne hb]; exact e2⟩

/-! ### slots -/
inductive Sl where
  | no
  | dt (d : PyData)
  | ow (ds : List PyData)
  | dk
  | sq (ns : List Int)
def ownd : Sl → Bool
  | .ow _ => true
  | .dk => true
  | _ => false
structure Cc where
  H0 : Hp
  S0 : Addr → Prop
  M : Addr → Prop
def SlOk (K : PySem.W.Frag) (C : Cc) (S : Addr → Prop) (H : Hp) (v : Option V) : Sl → Prop
  | .no => True
  | .dt d => ∃ x, v = some x ∧ Dd (Kn S H) x d
  | .ow ds => ∃ p xs, v = some (.ref p) ∧ S p ∧ ¬ C.S0 p ∧ C.H0 p = none ∧ H p = some (.lst xs) ∧ Dds (Kn S H) xs ds
  | .dk => ∃ (p : Addr) (ns : List Int), v = some (.ref p) ∧ S p ∧ (C.M p ∨ C.H0 p = none) ∧ H p = some (.lst (ns.map V.int))
  | .sq ns => ∃ p, v = some (.ref p) ∧ SqL K (Kn S H) p (ns.map V.int)
structure Sm (K : PySem.W.Frag) (C : Cc) (S : Addr → Prop) (σ : L2.St) (H : Hp) (δ : List Sl) : Prop where
  len : σ.length = δ.length
  sl : ∀ (i : Nat) v s, σ[i]? = some v → δ[i]? = some s → SlOk K C S H v s
  apart : ∀ (i j : Nat) p s u, σ[i]? = some (some (.ref p)) → σ[j]? = some (some (.ref p)) → δ[i]? = some s → δ[j]? = some u → ownd s = true → ownd u = true → i = j
  live : ∀ b, S b → H b ≠ none
  sub : ∀ b, C.S0 b → S b
  keep : ∀ b o, C.H0 b = some o → ¬ C.M b → H b = some o
  keepM : ∀ b, C.M b → ∃ ns : List Int, H b = some (.lst (ns.map V.int))
  mS : ∀ b, C.M b → C.S0 b
section
variable {K : PySem.W.Frag} {C : Cc} {S S' : Addr → Prop} {σ : L2.St} {H H' : Hp} {δ : List Sl}
theorem same_sq {a : Addr} {xs : List V} (e : Same H H') (h : SqL K H a xs) : SqL K H' a xs := Same.seq e h
theorem Sm.at_ (I : Sm K C S σ H δ) {i : Nat} {s : Sl} (h : δ[i]? = some s) : ∃ v, σ[i]? = some v ∧ SlOk K C S H v s := by
  have hi : i < σ.length := by rw [I.len]; exact (List.getElem?_eq_some_iff.mp h).1
  have e : σ[i]? = some σ[i] := List.getElem?_eq_getElem hi
  exact ⟨_, e, I.sl i _ s e h⟩
theorem live_same (e : Same H H') (h : ∀ b, S b → H b ≠ none) : ∀ b, S b → H' b ≠ none := fun b hb z => by
  cases q : H b with
  | none => exact h b hb q
  | some o => rw [e b o q] at z; cases z
/-- all that stood stands -/
theorem Sm.same (I : Sm K C S σ H δ) (e : Same H H') : Sm K C S σ H' δ := by
  refine ⟨I.len, fun i v s h1 h2 => ?_, I.apart, live_same e I.live, I.sub, fun b o h1 h2 => e _ _ (I.keep b o h1 h2), fun b h => ?_, I.mS⟩
  · have q := I.sl i v s h1 h2
    cases s with
    | no => trivial
    | dt d => obtain ⟨x, e1, e2⟩ := q; exact ⟨x, e1, e2.mono (kn_same e)⟩
    | ow ds => obtain ⟨p, xs, e1, e2, e3, e4, e5, e6⟩ := q; exact ⟨p, xs, e1, e2, e3, e4, e _ _ e5, e6.mono (kn_same e)⟩
    | dk => obtain ⟨p, ns, e1, e2, e3, e4⟩ := q; exact ⟨p, ns, e1, e2, e3, e _ _ e4⟩
    | sq ns => obtain ⟨p, e1, e2⟩ := q; exact ⟨p, e1, same_sq (kn_same e) e2⟩
  · obtain ⟨ns, q⟩ := I.keepM b h
    exact ⟨ns, e _ _ q⟩
/-- a slot told anew -/
theorem Sm.setd (I : Sm K C S σ H δ) {i : Nat} {v : V} {d : PyData} (h : Dd (Kn S H) v d) : Sm K C S (σ.set i (some v)) H (δ.set i (.dt d)) := by
  refine ⟨by rw [List.length_set, List.length_set]; exact I.len, fun j w s h1 h2 => ?_, fun j l p s u h1 h2 h3 h4 h5 h6 => ?_, I.live, I.sub, I.keep, I.keepM, I.mS⟩
  · by_cases e : i = j
    · subst e
      have hi : i < σ.length := by have := (List.getElem?_eq_some_iff.mp h1).1; rwa [List.length_set] at this
      rw [List.getElem?_set_self hi] at h1
      rw [List.getElem?_set_self (by rw [← I.len]; exact hi)] at h2
      cases h1; cases h2
      exact ⟨v, rfl, h⟩
    · rw [List.getElem?_set_ne e] at h1 h2
      exact I.sl j w s h1 h2
  · by_cases e : i = j
    · subst e
      have hi : i < δ.length := by have := (List.getElem?_eq_some_iff.mp h3).1; rwa [List.length_set] at this
      rw [List.getElem?_set_self hi] at h3
      cases h3; cases h5
    · by_cases e' : i = l
      · subst e'
        have hi : i < δ.length := by have := (List.getElem?_eq_some_iff.mp h4).1; rwa [List.length_set] at this
        rw [List.getElem?_set_self hi] at h4
        cases h4; cases h6
      · rw [List.getElem?_set_ne e] at h1 h3
        rw [List.getElem?_set_ne e'] at h2 h4
        exact I.apart j l p s u h1 h2 h3 h4 h5 h6
theorem Sm.setn (I : Sm K C S σ H δ) (i : Nat) (v : Option V) : Sm K C S (σ.set i v) H (δ.set i .no) := by
  refine ⟨by rw [List.length_set, List.length_set]; exact I.len, fun j w s h1 h2 => ?_, fun j l p s u h1 h2 h3 h4 h5 h6 => ?_, I.live, I.sub, I.keep, I.keepM, I.mS⟩
  · by_cases e : i = j
    · subst e
      have hi : i < σ.length := by have := (List.getElem?_eq_some_iff.mp h1).1; rwa [List.length_set] at this
      rw [List.getElem?_set_self (by rw [← I.len]; exact hi)] at h2
      cases h2
      trivial
    · rw [List.getElem?_set_ne e] at h1 h2
      exact I.sl j w s h1 h2
  · by_cases e : i = j
    · subst e
      have hi : i < δ.length := by have := (List.getElem?_eq_some_iff.mp h3).1; rwa [List.length_set] at this
      rw [List.getElem?_set_self hi] at h3
      cases h3; cases h5
    · by_cases e' : i = l
      · subst e'
        have hi : i < δ.length := by have := (List.getElem?_eq_some_iff.mp h4).1; rwa [List.length_set] at this
        rw [List.getElem?_set_self hi] at h4
        cases h4; cases h6
      · rw [List.getElem?_set_ne e] at h1 h3
        rw [List.getElem?_set_ne e'] at h2 h4
        exact I.apart j l p s u h1 h2 h3 h4 h5 h6
/-- the deck has been drawn from -/
theorem Sm.deck (I : Sm K C S σ H δ) {i : Nat} {a : Addr} {ms : List Int} (hi : δ[i]? = some .dk) (ha : σ[i]? = some (some (.ref a))) (e : ∀ b o, b ≠ a → H b = some o → H' b = some o) (hm : H' a = some (.lst (ms.map V.int))) :
    Sm K C S σ H' δ ∧ Same (Kn S H) (Kn S H') := by
  obtain ⟨p0, ns0, q1, q2, q3, q4⟩ := I.sl i _ _ ha hi
  cases q1
  have ks : Same (Kn S H) (Kn S H') := fun b o z => by
    obtain ⟨z1, z2⟩ := kn_some.mp z
    exact kn_some.mpr ⟨z1, e b o (fun w => z1 (w ▸ q2)) z2⟩
  refine ⟨⟨I.len, fun j v s h1 h2 => ?_, I.apart, fun b hb z => ?_, I.sub, fun b o h1 h2 => ?_, fun b h => ?_, I.mS⟩, ks⟩
  · have q := I.sl j v s h1 h2
    cases s with
    | no => trivial
    | dt d => obtain ⟨x, e1, e2⟩ := q; exact ⟨x, e1, e2.mono ks⟩
    | ow ds =>
      obtain ⟨p, xs, e1, e2, e3, e4, e5, e6⟩ := q
      refine ⟨p, xs, e1, e2, e3, e4, e _ _ (fun w => ?_) e5, e6.mono ks⟩
      subst w
      have ij := I.apart i j p _ _ ha (by rw [h1, e1]) hi h2 rfl rfl
      subst ij
      rw [hi] at h2; cases h2
    | dk =>
      obtain ⟨p, ns, e1, e2, e3, e4⟩ := q
      by_cases w : p = a
      · subst w; exact ⟨p, ms, e1, e2, e3, hm⟩
      · exact ⟨p, ns, e1, e2, e3, e _ _ w e4⟩
    | sq ns => obtain ⟨p, e1, e2⟩ := q; exact ⟨p, e1, same_sq ks e2⟩
  · by_cases w : b = a
    · subst w; rw [hm] at z; cases z
    · cases r : H b with
      | none => exact I.live b hb r
      | some o => rw [e b o w r] at z; cases z
  · have w : b ≠ a := fun w => by
      subst w
      rcases q3 with q3 | q3
      · exact h2 q3
      · rw [h1] at q3; cases q3
    exact e b o w (I.keep b o h1 h2)
  · by_cases w : b = a
    · subst w; exact ⟨ms, hm⟩
    · obtain ⟨ns, r⟩ := I.keepM b h
      exact ⟨ns, e b _ w r⟩
theorem same_kadd {p : Addr} {o : HO} (h : H p = none) : Same (Kn S H) (Kn (add S p) (upd H p o)) := kn_add h
/-- a new object, hidden -/
theorem Sm.hid (I : Sm K C S σ H δ) {p : Addr} {o : HO} (h : H p = none) : Sm K C (add S p) σ (upd H p o) δ := by
  have I' := I.same (same_upd (o := o) h)
  have ks : Same (Kn S H) (Kn (add S p) (upd H p o)) := kn_add h
  refine ⟨I.len, fun i v s h1 h2 => ?_, I.apart, fun b hb => ?_, fun b hb => .inr (I.sub b hb), I'.keep, I'.keepM, I.mS⟩
  · have q := I.sl i v s h1 h2
    cases s with
    | no => trivial
    | dt d => obtain ⟨x, e1, e2⟩ := q; exact ⟨x, e1, e2.mono ks⟩
    | ow ds => obtain ⟨r, xs, e1, e2, e3, e4, e5, e6⟩ := q; exact ⟨r, xs, e1, .inr e2, e3, e4, same_upd h _ _ e5, e6.mono ks⟩
    | dk => obtain ⟨r, ns, e1, e2, e3, e4⟩ := q; exact ⟨r, ns, e1, .inr e2, e3, same_upd h _ _ e4⟩
    | sq ns => obtain ⟨r, e1, e2⟩ := q; exact ⟨r, e1, same_sq ks e2⟩
  · rcases hb with rfl | hb
    · rw [upd_same]; exact fun z => nomatch z
    · exact I'.live b hb
/-- a hidden object that is not tracked by the context changes -/
theorem Sm.hmut (I : Sm K C S σ H δ) {p : Addr} {o : HO} (hs : S p) (hn : C.H0 p = none) (hM : ¬ C.M p) (hp : ∀ (i : Nat) s, σ[i]? = some (some (.ref p)) → δ[i]? = some s → ownd s = false) : Sm K C S σ (upd H p o) δ := by
  have ks : Same (Kn S H) (Kn S (upd H p o)) := kn_mut hs
  refine ⟨I.len, fun i v s h1 h2 => ?_, I.apart, fun b hb => ?_, I.sub, fun b u h1 h2 => ?_, fun b hb => ?_, I.mS⟩
  · have q := I.sl i v s h1 h2
    cases s with
    | no => trivial
    | dt d => obtain ⟨x, e1, e2⟩ := q; exact ⟨x, e1, e2.mono ks⟩
    | ow ds =>
      obtain ⟨r, xs, e1, e2, e3, e4, e5, e6⟩ := q
      have hr : r ≠ p := fun z => by subst z; subst e1; have := hp i _ h1 h2; cases this
      exact ⟨r, xs, e1, e2, e3, e4, by rw [upd_ne hr]; exact e5, e6.mono ks⟩
    | dk =>
      obtain ⟨r, ns, e1, e2, e3, e4⟩ := q
      have hr : r ≠ p := fun z => by subst z; subst e1; have := hp i _ h1 h2; cases this
      exact ⟨r, ns, e1, e2, e3, by rw [upd_ne hr]; exact e4⟩
    | sq ns => obtain ⟨r, e1, e2⟩ := q; exact ⟨r, e1, same_sq ks e2⟩
  · by_cases w : b = p
    · subst w; rw [upd_same]; exact fun z => nomatch z
    · rw [upd_ne w]; exact I.live b hb
  · have w : b ≠ p := ne_of_none h1 hn
    rw [upd_ne w]; exact I.keep b u h1 h2
  · have w : b ≠ p := fun z => hM (z ▸ hb)
    rw [upd_ne w]; exact I.keepM b hb
end
end DL

set_option Elab.async false
set_option linter.all false
set_option maxRecDepth 100000
set_option maxHeartbeats 1000000
namespace DL
open PySem PySem.Spec PyProof.Rows L2
section
variable {K : PySem.W.Frag} {C : Cc} {S S' : Addr → Prop} {σ : L2.St} {H H' : Hp} {δ : List Sl}
theorem Sm.fresh (I : Sm K C S σ H δ) {p : Addr} (h : H p = none) : C.H0 p = none ∧ ¬ C.M p ∧ ¬ S p ∧ ¬ C.S0 p := by
  have hs : ¬ S p := fun z => I.live p z h
  have hm : ¬ C.M p := fun z => by obtain ⟨ns, q⟩ := I.keepM p z; rw [h] at q; cases q
  refine ⟨?_, hm, hs, fun z => hs (I.sub p z)⟩
  cases q : C.H0 p with
  | none => rfl
  | some o => have := I.keep p o q hm; rw [h] at this; cases this
theorem Sm.noslot (I : Sm K C S σ H δ) {p : Addr} (hs : ¬ S p) : ∀ (i : Nat) s, σ[i]? = some (some (.ref p)) → δ[i]? = some s → ownd s = false := fun i s h1 h2 => by
  have q := I.sl i _ s h1 h2
  cases s with
  | no => rfl
  | dt d => rfl
  | sq ns => rfl
  | ow ds => obtain ⟨r, xs, e1, e2, _⟩ := q; cases e1; exact absurd e2 hs
  | dk => obtain ⟨r, ns, e1, e2, _⟩ := q; cases e1; exact absurd e2 hs
/-- a hidden list becomes a slot's own -/
theorem Sm.own (I : Sm K C S σ H δ) {i : Nat} {p : Addr} {xs : List V} {s : Sl} (hn : ∀ (j : Nat) s, σ[j]? = some (some (.ref p)) → δ[j]? = some s → ownd s = false) (h : SlOk K C S H (some (.ref p)) s) : Sm K C S (σ.set i (some (.ref p))) H (δ.set i s) := by
  refine ⟨by rw [List.length_set, List.length_set]; exact I.len, fun j w u h1 h2 => ?_, fun j l q u v h1 h2 h3 h4 h5 h6 => ?_, I.live, I.sub, I.keep, I.keepM, I.mS⟩
  · by_cases e : i = j
    · subst e
      have hi : i < σ.length := by have := (List.getElem?_eq_some_iff.mp h1).1; rwa [List.length_set] at this
      rw [List.getElem?_set_self hi] at h1
      rw [List.getElem?_set_self (by rw [← I.len]; exact hi)] at h2
      cases h1; cases h2
      exact h
    · rw [List.getElem?_set_ne e] at h1 h2
      exact I.sl j w u h1 h2
  · by_cases e : i = j
    · by_cases e' : i = l
      · omega
      · subst e
        have hi : i < σ.length := by have := (List.getElem?_eq_some_iff.mp h1).1; rwa [List.length_set] at this
        rw [List.getElem?_set_self hi] at h1
        cases h1
        rw [List.getElem?_set_ne e'] at h2 h4
        rw [hn l v h2 h4] at h6; cases h6
    · by_cases e' : i = l
      · subst e'
        have hi : i < σ.length := by have := (List.getElem?_eq_some_iff.mp h2).1; rwa [List.length_set] at this
        rw [List.getElem?_set_self hi] at h2
        cases h2
        rw [List.getElem?_set_ne e] at h1 h3
        rw [hn j u h1 h3] at h5; cases h5
      · rw [List.getElem?_set_ne e] at h1 h3
        rw [List.getElem?_set_ne e'] at h2 h4
        exact I.apart j l q u v h1 h2 h3 h4 h5 h6
/-- an own list is given away: it is data from now on -/
theorem Sm.frz (I : Sm K C S σ H δ) {i : Nat} {ds : List PyData} (h : δ[i]? = some (.ow ds)) : ∃ S', Sm K C S' σ H (δ.set i (.dt (.list ds))) ∧ Same (Kn S H) (Kn S' H) := by
  obtain ⟨v, hv, q⟩ := I.at_ h
  obtain ⟨p, xs, rfl, hS, h0, hn, hp, hd⟩ := q
  have ks : Same (Kn S H) (Kn (del S p) H) := kn_anti fun b z => z.2
  have kp : Kn (del S p) H p = some (.lst xs) := kn_some.mpr ⟨fun z => z.1 rfl, hp⟩
  have hi : i < δ.length := (List.getElem?_eq_some_iff.mp h).1
  refine ⟨del S p, ⟨by rw [List.length_set]; exact I.len, fun j w u h1 h2 => ?_, fun j l q u v h1 h2 h3 h4 h5 h6 => ?_, fun b hb => I.live b hb.2, fun b hb => ⟨fun z => h0 (z ▸ hb), I.sub b hb⟩, I.keep, I.keepM, I.mS⟩, ks⟩
  · by_cases e : i = j
    · subst e
      rw [List.getElem?_set_self hi] at h2
      cases h2
      rw [hv] at h1; cases h1
      exact ⟨_, rfl, .lst kp (hd.mono ks)⟩
    · rw [List.getElem?_set_ne e] at h2
      have q := I.sl j w u h1 h2
      cases u with
      | no => trivial
      | dt d => obtain ⟨x, e1, e2⟩ := q; exact ⟨x, e1, e2.mono ks⟩
      | ow ds' =>
        obtain ⟨r, ys, e1, e2, e3, e4, e5, e6⟩ := q
        refine ⟨r, ys, e1, ⟨fun z => ?_, e2⟩, e3, e4, e5, e6.mono ks⟩
        subst z; subst e1
        exact e (I.apart i j r _ _ hv h1 h h2 rfl rfl)
      | dk =>
        obtain ⟨r, ns, e1, e2, e3, e4⟩ := q
        refine ⟨r, ns, e1, ⟨fun z => ?_, e2⟩, e3, e4⟩
        subst z; subst e1
        exact e (I.apart i j r _ _ hv h1 h h2 rfl rfl)
      | sq ns => obtain ⟨r, e1, e2⟩ := q; exact ⟨r, e1, same_sq ks e2⟩
  · by_cases e : i = j
    · subst e
      rw [List.getElem?_set_self hi] at h3
      cases h3; cases h5
    · by_cases e' : i = l
      · subst e'
        rw [List.getElem?_set_self hi] at h4
        cases h4; cases h6
      · rw [List.getElem?_set_ne e] at h3
        rw [List.getElem?_set_ne e'] at h4
        exact I.apart j l q u v h1 h2 h3 h4 h5 h6
/-- an own list is changed -/
theorem Sm.mutd (I : Sm K C S σ H δ) {i : Nat} {ds es : List PyData} {p : Addr} {ys : List V} (h : δ[i]? = some (.ow ds)) (hv : σ[i]? = some (some (.ref p))) (hy : Dds (Kn S H) ys es) :
    Sm K C S σ (upd H p (.lst ys)) (δ.set i (.ow es)) ∧ Same (Kn S H) (Kn S (upd H p (.lst ys))) := by
  obtain ⟨p0, xs, e0, hS, h0, hn, hp, hd⟩ := I.sl i _ _ hv h
  cases e0
  have ks : Same (Kn S H) (Kn S (upd H p (.lst ys))) := kn_mut hS
  have hi : i < δ.length := (List.getElem?_eq_some_iff.mp h).1
  have hM : ¬ C.M p := fun z => h0 (I.mS p z)
  have hv' : ∀ j w, i ≠ j → σ[j]? = some (some (.ref p)) → δ[j]? = some w → ownd w = false := fun j w e h1 h2 => by
    cases hw : ownd w with
    | false => rfl
    | true => exact absurd (I.apart i j p _ _ hv h1 h h2 rfl hw) e
  refine ⟨⟨by rw [List.length_set]; exact I.len, fun j w u h1 h2 => ?_, fun j l q u v h1 h2 h3 h4 h5 h6 => ?_, fun b hb => ?_, I.sub, fun b u h1 h2 => ?_, fun b hb => ?_, I.mS⟩, ks⟩
  · by_cases e : i = j
    · subst e
      rw [List.getElem?_set_self hi] at h2
      cases h2
      rw [hv] at h1; cases h1
      exact ⟨p, ys, rfl, hS, h0, hn, upd_same, hy.mono ks⟩
    · rw [List.getElem?_set_ne e] at h2
      have q := I.sl j w u h1 h2
      cases u with
      | no => trivial
      | dt d => obtain ⟨x, e1, e2⟩ := q; exact ⟨x, e1, e2.mono ks⟩
      | ow ds' =>
        obtain ⟨r, zs, e1, e2, e3, e4, e5, e6⟩ := q
        have hr : r ≠ p := fun z => by subst z; subst e1; have := hv' j _ e h1 h2; cases this
        exact ⟨r, zs, e1, e2, e3, e4, by rw [upd_ne hr]; exact e5, e6.mono ks⟩
      | dk =>
        obtain ⟨r, ns, e1, e2, e3, e4⟩ := q
        have hr : r ≠ p := fun z => by subst z; subst e1; have := hv' j _ e h1 h2; cases this
        exact ⟨r, ns, e1, e2, e3, by rw [upd_ne hr]; exact e4⟩
      | sq ns => obtain ⟨r, e1, e2⟩ := q; exact ⟨r, e1, same_sq ks e2⟩
  · have back : ∀ j s, (δ.set i (.ow es))[j]? = some s → ownd s = true → ∃ s', δ[j]? = some s' ∧ ownd s' = true := fun j s g1 g2 => by
      by_cases e : i = j
      · subst e; exact ⟨_, h, rfl⟩
      · rw [List.getElem?_set_ne e] at g1; exact ⟨s, g1, g2⟩
    obtain ⟨u', g1, g2⟩ := back j u h3 h5
    obtain ⟨v', g3, g4⟩ := back l v h4 h6
    exact I.apart j l q u' v' h1 h2 g1 g3 g2 g4
  · by_cases w : b = p
    · subst w; rw [upd_same]; exact fun z => nomatch z
    · rw [upd_ne w]; exact I.live b hb
  · have w : b ≠ p := ne_of_none h1 hn
    rw [upd_ne w]; exact I.keep b u h1 h2
  · have w : b ≠ p := fun z => hM (z ▸ hb)
    rw [upd_ne w]; exact I.keepM b hb
/-- slots forgotten -/
def wipeD (δ : List Sl) : List Nat → List Sl
  | [] => δ
  | v :: vs => (wipeD δ vs).set v .no
theorem Sm.wipe (I : Sm K C S σ H δ) : ∀ vs : List Nat, Sm K C S (L2.wipe σ vs) H (wipeD δ vs)
  | [] => I
  | v :: vs => by
    have := (Sm.wipe I vs).setn v none
    exact this
end

/-! ### the judgements: what a piece of syntax asks, told in data -/
section
variable {X : Cx}
def tE (X : Cx) (e : Expr) : TE := fun σ H Q => ∀ (pins : List (Addr × Obj)) (s : Shared), Inv X pins σ H s → wpAny (model X.prog X.w) X.A (eval e X.env) (EP X pins σ Q) X.xe s
def tT (X : Cx) (e : Expr) : TT := fun σ H Q => ∀ (pins : List (Addr × Obj)) (s : Shared), Inv X pins σ H s → wpAny (model X.prog X.w) X.A (isTrue e X.env (eval e X.env)) (TP X pins σ Q) X.xe s
def tW (X : Cx) (e : Expr) : TT := fun σ H Q => ∀ (whole : PySem.Sem Value) (pins : List (Addr × Obj)) (s : Shared), Inv X pins σ H s → wpAny (model X.prog X.w) X.A (isTrue e X.env whole) (TP X pins σ Q) X.xe s
def tA (X : Cx) (es : List Expr) : TA := fun σ H Q => ∀ (pos : Pos) (pins : List (Addr × Obj)) (s : Shared), Inv X pins σ H s → wpAny (model X.prog X.w) X.A (spliced (backTo pos (starEach es X.env))) (AP X pins σ Q) X.xe s
def tS (X : Cx) (st : Stmt) : TS := fun D σ H => ∀ (pins : List (Addr × Obj)) (s : Shared), Inv X pins σ H s → wpAny (model X.prog X.w) X.A (exec st X.env) (SP X pins D) X.xe s
def tSs (X : Cx) (sts : List Stmt) : TS := fun D σ H => ∀ (pins : List (Addr × Obj)) (s : Shared), Inv X pins σ H s → wpAny (model X.prog X.w) X.A (execs sts X.env) (SP X pins D) X.xe s
def tI (X : Cx) (tg iter : Expr) : TI := fun σ H R => ∀ (pins : List (Addr × Obj)) (s : Shared), Inv X pins σ H s →
  wpAny (model X.prog X.w) X.A (eval iter X.env) (fun v s1 => wpAny (model X.prog X.w) X.A (pyIter v) (PIE X pins σ tg R) X.xe s1) X.xe s
theorem pe_tE {e : Expr} : PE X e (tE X e) := ⟨fun pins s σ H Q I h => h pins s I⟩
theorem pt_tT {e : Expr} : PT X e (tT X e) := ⟨fun pins s σ H Q I h => h pins s I⟩
theorem pw_tW {e : Expr} : PW X e (tW X e) := ⟨fun wh pins s σ H Q I h => h wh pins s I⟩
theorem pa_tA {es : List Expr} : PA X es (tA X es) := ⟨fun pos pins s σ H Q I h => h pos pins s I⟩
theorem ps_tS {st : Stmt} : PS X st (tS X st) := ⟨fun pins s σ H D I h => h pins s I⟩
theorem pss_tSs {sts : List Stmt} : PSs X sts (tSs X sts) := ⟨fun pins s σ H D I h => h pins s I⟩
theorem pi_tI {tg iter : Expr} : PI X tg iter (tI X tg iter) := ⟨fun pins s σ H R I h => h pins s I⟩
section
variable {e tg iter : Expr} {es : List Expr} {st : Stmt} {sts : List Stmt} {σ : L2.St} {H : Hp} {D : Ends}
theorem tE_of {t : TE} {Q : VK} (h : PE X e t) (q : t σ H Q) : tE X e σ H Q := fun pins s I => h.run pins s σ H Q I q
theorem tT_of {t : TT} {Q : Bool → Hp → Prop} (h : PT X e t) (q : t σ H Q) : tT X e σ H Q := fun pins s I => h.run pins s σ H Q I q
theorem tW_of {t : TT} {Q : Bool → Hp → Prop} (h : PW X e t) (q : t σ H Q) : tW X e σ H Q := fun wh pins s I => h.run wh pins s σ H Q I q
theorem tA_of {t : TA} {Q : List V → Hp → Prop} (h : PA X es t) (q : t σ H Q) : tA X es σ H Q := fun pos pins s I => h.run pos pins s σ H Q I q
theorem tS_of {t : TS} (h : PS X st t) (q : t D σ H) : tS X st D σ H := fun pins s I => h.run pins s σ H D I q
theorem tSs_of {t : TS} (h : PSs X sts t) (q : t D σ H) : tSs X sts D σ H := fun pins s I => h.run pins s σ H D I q
theorem tI_of {t : TI} {R : It → Hp → Prop} (h : PI X tg iter t) (q : t σ H R) : tI X tg iter σ H R := fun pins s I => h.run pins s σ H R I q
end
/-- all but the deck is as it was -/
def Fd (σ : L2.St) (δ : List Sl) (H H' : Hp) : Prop := ∀ b o, H b = some o → (∀ i : Nat, σ[i]? = some (some (.ref b)) → δ[i]? = some .dk → False) → H' b = some o
theorem Fd.refl {σ : L2.St} {δ : List Sl} (H : Hp) : Fd σ δ H H := fun _ _ e _ => e
theorem Fd.trans {σ : L2.St} {δ : List Sl} {H H1 H2 : Hp} (a : Fd σ δ H H1) (b : Fd σ δ H1 H2) : Fd σ δ H H2 := fun c o e h => b c o (a c o e h) h
theorem Fd.of {σ : L2.St} {δ : List Sl} {H H' : Hp} (e : Same H H') : Fd σ δ H H' := fun b o h _ => e b o h
theorem Fd.kn {K : PySem.W.Frag} {C : Cc} {S : Addr → Prop} {σ : L2.St} {δ : List Sl} {H H' : Hp} (s : Fd σ δ H H') (I : Sm K C S σ H δ) : Same (Kn S H) (Kn S H') := fun b o e => by
  obtain ⟨e1, e2⟩ := kn_some.mp e
  refine kn_some.mpr ⟨e1, s b o e2 fun i h1 h2 => ?_⟩
  obtain ⟨p, ns, q1, q2, _⟩ := I.sl i _ _ h1 h2
  cases q1
  exact e1 q2
def DE (X : Cx) (δ : List Sl) (e : Expr) (Ψ : PyData → Prop) : Prop := ∀ (C : Cc) (S : Addr → Prop) (σ : L2.St) (H : Hp), Sm X.K C S σ H δ → ∀ Q : VK,
  (∀ v H' d, Sm X.K C S σ H' δ → Fd σ δ H H' → Dd (Kn S H') v d → Ψ d → Q v H') → tE X e σ H Q
def DT (X : Cx) (δ : List Sl) (e : Expr) (Ψ : Bool → Prop) : Prop := ∀ (C : Cc) (S : Addr → Prop) (σ : L2.St) (H : Hp), Sm X.K C S σ H δ → ∀ Q : Bool → Hp → Prop,
  (∀ b H', Sm X.K C S σ H' δ → Fd σ δ H H' → Ψ b → Q b H') → tT X e σ H Q
def DW (X : Cx) (δ : List Sl) (e : Expr) (Ψ : Bool → Prop) : Prop := ∀ (C : Cc) (S : Addr → Prop) (σ : L2.St) (H : Hp), Sm X.K C S σ H δ → ∀ Q : Bool → Hp → Prop,
  (∀ b H', Sm X.K C S σ H' δ → Fd σ δ H H' → Ψ b → Q b H') → tW X e σ H Q
def DA (X : Cx) (δ : List Sl) (es : List Expr) (Ψ : List PyData → Prop) : Prop := ∀ (C : Cc) (S : Addr → Prop) (σ : L2.St) (H : Hp), Sm X.K C S σ H δ → ∀ Q : List V → Hp → Prop,
  (∀ vs H' ds, Sm X.K C S σ H' δ → Fd σ δ H H' → Dds (Kn S H') vs ds → Ψ ds → Q vs H') → tA X es σ H Q
/-- an expression that makes a list of its own -/
def DL_ (X : Cx) (δ : List Sl) (e : Expr) (Ψ : List PyData → Prop) : Prop := ∀ (C : Cc) (S : Addr → Prop) (σ : L2.St) (H : Hp), Sm X.K C S σ H δ → ∀ Q : VK,
  (∀ p H' xs ds, Sm X.K C (add S p) σ H' δ → Fd σ δ H H' → Same (Kn S H) (Kn (add S p) H') → ¬ S p → C.H0 p = none → ¬ C.S0 p → H' p = some (.lst xs) → Dds (Kn (add S p) H') xs ds → Ψ ds → Q (.ref p) H') → tE X e σ H Q
structure EndsD where
  nx : List Sl → Prop
  rt : PyData → Prop
  bk : List Sl → Prop := fun _ => False
  ct : List Sl → Prop := fun _ => False
structure RtF (C : Cc) (H : Hp) : Prop where
  keep : ∀ b o, C.H0 b = some o → ¬ C.M b → H b = some o
  keepM : ∀ b, C.M b → ∃ ns : List Int, H b = some (.lst (ns.map V.int))
structure EOk (K : PySem.W.Frag) (C : Cc) (G : Hp) (D : Ends) (Φ : EndsD) : Prop where
  nx : ∀ S σ H δ, Φ.nx δ → Sm K C S σ H δ → Same G (Kn S H) → D.nx σ H
  rt : ∀ v H d, Φ.rt d → RtF C H → Dd (Kn C.S0 H) v d → D.rt v H
  bk : ∀ S σ H δ, Φ.bk δ → Sm K C S σ H δ → Same G (Kn S H) → D.bk σ H
  ct : ∀ S σ H δ, Φ.ct δ → Sm K C S σ H δ → Same G (Kn S H) → D.ct σ H
def DS (X : Cx) (δ : List Sl) (st : Stmt) (Φ : EndsD) : Prop := ∀ (C : Cc) (S : Addr → Prop) (σ : L2.St) (H : Hp) (D : Ends), Sm X.K C S σ H δ → EOk X.K C (Kn S H) D Φ → tS X st D σ H
def DSs (X : Cx) (δ : List Sl) (sts : List Stmt) (Φ : EndsD) : Prop := ∀ (C : Cc) (S : Addr → Prop) (σ : L2.St) (H : Hp) (D : Ends), Sm X.K C S σ H δ → EOk X.K C (Kn S H) D Φ → tSs X sts D σ H
theorem EOk.mono {K : PySem.W.Frag} {C : Cc} {G G' : Hp} {D : Ends} {Φ : EndsD} (h : EOk K C G D Φ) (e : Same G G') : EOk K C G' D Φ :=
  ⟨fun S σ H δ p I q => h.nx S σ H δ p I (e.trans q), h.rt, fun S σ H δ p I q => h.bk S σ H δ p I (e.trans q), fun S σ H δ p I q => h.ct S σ H δ p I (e.trans q)⟩
theorem Sm.rtf {K : PySem.W.Frag} {C : Cc} {S : Addr → Prop} {σ : L2.St} {H : Hp} {δ : List Sl} (I : Sm K C S σ H δ) : RtF C H := ⟨I.keep, I.keepM⟩
theorem Sm.knS0 {K : PySem.W.Frag} {C : Cc} {S : Addr → Prop} {σ : L2.St} {H : Hp} {δ : List Sl} (I : Sm K C S σ H δ) : Same (Kn S H) (Kn C.S0 H) := kn_anti I.sub
end
end DL

set_option Elab.async false
set_option linter.all false
set_option maxRecDepth 100000
set_option maxHeartbeats 1000000
namespace DL
open PySem PySem.Spec PyProof.Rows L2
theorem le1 {n m : Nat} (h : Nat.ble n m = true) : n ≤ m := Nat.le_of_ble_eq_true h
theorem sizeL {n : Nat} (h : n ≤ 1000000) : n ≤ sizeLine := Nat.le_trans h (by decide)
theorem sizeLt {n : Nat} (h : n ≤ 1000000) : n < sizeLine := Nat.lt_of_le_of_lt h (by decide)
theorem Dds.atI {H : Hp} {ds : List PyData} {vs : List V} {i : Int} {d : PyData} (h : Dds H vs ds) (e : L2.atI ds i = some d) : ∃ v, L2.atI vs i = some v ∧ Dd H v d := by
  unfold L2.atI at e ⊢
  rw [h.length]
  cases q : ixN ds.length i with
  | none => rw [q] at e; cases e
  | some j =>
    rw [q] at e
    exact h.get e
theorem atI_c {α : Type} {ds : List α} {n : Nat} {d : α} (h : ds[n]? = some d) : L2.atI ds (n : Int) = some d := atI_nat h
/-- what an operation asks, told in data -/
def RD (X : Cx) (r : R2) (d1 d2 : PyData) (Ψ : PyData → Prop) : Prop := ∀ (C : Cc) (S : Addr → Prop) (σ : L2.St) (H : Hp) (δ : List Sl) (x y : V), Sm X.K C S σ H δ → Dd (Kn S H) x d1 → Dd (Kn S H) y d2 → ∀ Q : VK,
  (∀ v H' d, Sm X.K C S σ H' δ → Fd σ δ H H' → Dd (Kn S H') v d → Ψ d → Q v H') → r x y H Q
section
variable {X : Cx} {δ : List Sl} {Ψ : PyData → Prop} {e a b : Expr} {es : List Expr} {pos p : Pos} {x : Str}

/-! ### names and constants -/
theorem de_var {d : PyData} (i : Nat) (hd : δ[i]? = some (.dt d)) (q : Ψ d) (hN : X.N[i]? = some x := by rfl) (hv : Vis X.env.scope x := by first | exact Or.inl rfl | exact Or.inr (Or.inl rfl) | exact Or.inr (Or.inr rfl))
    (hdb : (x == ("__debug__" : Str)) = false := by decide) (hcd : (x == ("__classdict__" : Str)) = false := by decide) : DE X δ (.Name x pos) Ψ := by
  intro C S σ H I Q k
  obtain ⟨v, hv', y, rfl, hy⟩ := I.at_ hd
  exact tE_of (pe_var hN hv hdb hcd) ⟨y, hv', k y H d I (Fd.refl _) hy q⟩
theorem de_int {i j} (q : Ψ (.int i)) : DE X δ (.Constant (.int i) j pos) Ψ := fun C S σ H I Q k => tE_of pe_int (k _ H _ I (Fd.refl _) (.int i) q)
theorem de_str {i j} (q : Ψ (.str i)) : DE X δ (.Constant (.str i) j pos) Ψ := fun C S σ H I Q k => tE_of pe_str (k _ H _ I (Fd.refl _) (.str i) q)
theorem de_bl {i j} (q : Ψ (.bool i)) : DE X δ (.Constant (.bool i) j pos) Ψ := fun C S σ H I Q k => tE_of pe_bl (k _ H _ I (Fd.refl _) (.bl i) q)
theorem de_non {j} (q : Ψ .none) : DE X δ (.Constant .none j pos) Ψ := fun C S σ H I Q k => tE_of pe_non (k _ H _ I (Fd.refl _) .non q)

theorem de_imp {Ψ' : PyData → Prop} (h : DE X δ e Ψ') (f : ∀ d, Ψ' d → Ψ d) : DE X δ e Ψ := fun C S σ H I Q k => h C S σ H I Q fun v H' d I' s h' q => k v H' d I' s h' (f d q)
theorem dt_imp {Ψ Ψ' : Bool → Prop} (h : DT X δ e Ψ') (f : ∀ d, Ψ' d → Ψ d) : DT X δ e Ψ := fun C S σ H I Q k => h C S σ H I Q fun v H' I' s q => k v H' I' s (f v q)
theorem da_imp {Ψ Ψ' : List PyData → Prop} (h : DA X δ es Ψ') (f : ∀ d, Ψ' d → Ψ d) : DA X δ es Ψ := fun C S σ H I Q k => h C S σ H I Q fun v H' d I' s h' q => k v H' d I' s h' (f d q)

/-! ### two in a row -/
theorem two {Ψ2 : PyData → PyData → Prop} (h : DE X δ a fun d1 => DE X δ b fun d2 => Ψ2 d1 d2) {C : Cc} {S : Addr → Prop} {σ : L2.St} {H : Hp} (I : Sm X.K C S σ H δ) {R : V → V → Hp → Prop}
    (k : ∀ x y H' d1 d2, Sm X.K C S σ H' δ → Fd σ δ H H' → Dd (Kn S H') x d1 → Dd (Kn S H') y d2 → Ψ2 d1 d2 → R x y H') : tE X a σ H fun x H1 => tE X b σ H1 fun y H2 => R x y H2 :=
  h C S σ H I _ fun x H1 d1 I1 s1 h1 q1 => q1 C S σ H1 I1 _ fun y H2 d2 I2 s2 h2 q2 => k x y H2 d1 d2 I2 (s1.trans s2) (h1.mono (s2.kn I1)) h2 q2
theorem de_op {op : Operator} {r : R2} (ho : OpR X (binaryOp op) r) (h : DE X δ a fun d1 => DE X δ b fun d2 => RD X r d1 d2 Ψ) : DE X δ (.BinOp a op b pos) Ψ := by
  intro C S σ H I Q k
  refine tE_of (pe_op ho pe_tE pe_tE) (two h I fun x y H' d1 d2 I' s h1 h2 q => ?_)
  exact q C S σ H' δ x y I' h1 h2 Q fun v H2 d I2 s2 h3 q3 => k v H2 d I2 (s.trans s2) h3 q3
theorem de_cmp {op : CmpOp} {r : R2} (ho : OpR X (compareOp op) r) (h : DE X δ a fun d1 => DE X δ b fun d2 => RD X r d1 d2 Ψ) (hm : behindInMarks op b = false := by first | exact nomark _ | rfl) : DE X δ (.Compare a [op] [b] pos) Ψ := by
  intro C S σ H I Q k
  refine tE_of (pe_cmpR ho pe_tE pe_tE hm) (two h I fun x y H' d1 d2 I' s h1 h2 q => ?_)
  exact q C S σ H' δ x y I' h1 h2 Q fun v H2 d I2 s2 h3 q3 => k v H2 d I2 (s.trans s2) h3 q3
theorem dt_cmp {Ψ : Bool → Prop} {op : CmpOp} {r : R2} (ho : OpR X (compareOp op) r) (h : DE X δ a fun d1 => DE X δ b fun d2 => RD X r d1 d2 fun d => ∃ k, d = .bool k ∧ Ψ k) (hm : behindInMarks op b = false := by first | exact nomark _ | rfl) :
    DT X δ (.Compare a [op] [b] pos) Ψ := by
  intro C S σ H I Q k
  refine tT_of (pt_cmpR ho pe_tE pe_tE hm) (two h I fun x y H' d1 d2 I' s h1 h2 q => ?_)
  refine q C S σ H' δ x y I' h1 h2 _ fun v H2 d I2 s2 h3 q3 => ?_
  obtain ⟨c, rfl, q3⟩ := q3
  exact ⟨c, h3.bl_inv, k c H2 I2 (s.trans s2) q3⟩
theorem de_ix (h : DE X δ a fun d1 => DE X δ b fun d2 => ∃ ds i d, (d1 = .list ds ∨ d1 = .tuple ds) ∧ d2 = .int i ∧ L2.atI ds i = some d ∧ Ψ d) (hs : PlainIx b := by exact fun _ _ => rfl) : DE X δ (.Subscript a b pos) Ψ := by
  intro C S σ H I Q k
  refine tE_of (pe_ix (ix_list.or ix_tup) pe_tE pe_tE hs) (two h I fun x y H' d1 d2 I' s h1 h2 q => ?_)
  obtain ⟨ds, i, d, e1, rfl, e3, q⟩ := q
  rw [h2.int_inv]
  rcases e1 with rfl | rfl
  · obtain ⟨p, xs, rfl, hp, hx⟩ := h1.lst_inv
    obtain ⟨v, hv, hd⟩ := hx.atI e3
    exact .inl ⟨p, xs, i, v, rfl, rfl, .inl (.inl (kn_le _ _ hp)), hv, k v H' d I' s hd q⟩
  · obtain ⟨p, xs, rfl, hp, hx⟩ := h1.tup_inv
    obtain ⟨v, hv, hd⟩ := hx.atI e3
    exact .inr ⟨p, xs, i, v, rfl, rfl, .inl (.inl (kn_le _ _ hp)), hv, k v H' d I' s hd q⟩
/-- a subscript by a written number from 0 on -/
theorem de_ixc {n : Nat} {j pos'} (h : DE X δ a fun d1 => ∃ ds d, (d1 = .tuple ds ∨ d1 = .list ds) ∧ ds[n]? = some d ∧ Ψ d) : DE X δ (.Subscript a (.Constant (.int (n : Int)) j pos') pos) Ψ :=
  de_ix (de_imp h fun d1 ⟨ds, d, e1, e2, q⟩ => de_int ⟨ds, n, d, e1.symm, rfl, atI_c e2, q⟩)
/-- a text's sign -/
theorem de_ixs (h : DE X δ a fun d1 => DE X δ b fun d2 => ∃ (z : Str) (i : Int) (c : Nat), d1 = .str z ∧ d2 = .int i ∧ z.length ≤ 1000000 ∧ L2.atI z.cps.toList i = some c ∧ Ψ (.str ⟨#[c]⟩)) (hs : PlainIx b := by exact fun _ _ => rfl) : DE X δ (.Subscript a b pos) Ψ := by
  intro C S σ H I Q k
  refine tE_of (pe_ix ix_str pe_tE pe_tE hs) (two h I fun x y H' d1 d2 I' s h1 h2 q => ?_)
  obtain ⟨z, i, c, rfl, rfl, e2, e3, q⟩ := q
  rw [h2.int_inv, h1.str_inv]
  exact ⟨z, i, c, rfl, rfl, sizeL e2, e3, k _ H' _ I' s (.str _) q⟩

/-! ### argument lists, displays -/
theorem da_nil {Ψ : List PyData → Prop} (q : Ψ []) : DA X δ [] Ψ := fun C S σ H I Q k => tA_of pa_nil (k [] H [] I (Fd.refl _) .nil q)
theorem da_cons {Ψ : List PyData → Prop} (h : DE X δ e fun d => DA X δ es fun ds => Ψ (d :: ds)) (hs : starEach (e :: es) X.env = (false, eval e X.env) :: starEach es X.env := by rfl) : DA X δ (e :: es) Ψ := by
  intro C S σ H I Q k
  refine tA_of (pa_cons pe_tE pa_tA hs) ?_
  exact h C S σ H I _ fun x H1 d1 I1 s1 h1 q1 => q1 C S σ H1 I1 _ fun xs H2 ds I2 s2 h2 q2 => k _ H2 _ I2 (s1.trans s2) (.cons (h1.mono (s2.kn I1)) h2) q2
theorem de_tup {kk} (h : DA X δ es fun ds => ds.length ≤ 1000000 ∧ Ψ (.tuple ds)) : DE X δ (.Tuple es kk pos) Ψ := by
  intro C S σ H I Q k
  refine tE_of (pe_tup pa_tA) (h C S σ H I _ fun xs H1 ds I1 s1 h1 q1 => ⟨by rw [h1.length]; exact sizeL q1.1, fun p hp => ?_⟩)
  have kp : Kn S (upd H1 p (.tup xs)) p = some (.tup xs) := kn_some.mpr ⟨(I1.fresh hp).2.2.1, upd_same⟩
  exact k _ _ _ (I1.same (same_upd hp)) (s1.trans (Fd.of (same_upd hp))) (.tup kp (h1.mono (kn_same (same_upd hp)))) q1.2
theorem dl_lst {Ψ : List PyData → Prop} (h : DA X δ es fun ds => ds.length ≤ 1000000 ∧ Ψ ds) : DL_ X δ (.List es pos) Ψ := by
  intro C S σ H I Q k
  refine tE_of (pe_lst pa_tA) (h C S σ H I _ fun xs H1 ds I1 s1 h1 q1 => ⟨by rw [h1.length]; exact sizeL q1.1, fun p hp => ?_⟩)
  obtain ⟨f1, f2, f3, f4⟩ := I1.fresh hp
  exact k p _ xs ds (I1.hid hp) (s1.trans (Fd.of (same_upd hp))) ((s1.kn I).trans (kn_add hp)) f3 f1 f4 upd_same (h1.mono (kn_add hp)) q1.2
theorem Sm.unhid {K : PySem.W.Frag} {C : Cc} {S : Addr → Prop} {σ : L2.St} {H H' : Hp} {p : Addr} (I : Sm K C S σ H δ) (I' : Sm K C (add S p) σ H' δ) (hp : ¬ S p) : Sm K C S σ H' δ := by
  have ks : Same (Kn (add S p) H') (Kn S H') := kn_anti fun b z => .inr z
  refine ⟨I.len, fun i v s h1 h2 => ?_, I.apart, fun b hb => I'.live b (.inr hb), I.sub, I'.keep, I'.keepM, I.mS⟩
  have q := I.sl i v s h1 h2
  have q' := I'.sl i v s h1 h2
  cases s with
  | no => trivial
  | dt d => obtain ⟨x, e1, e2⟩ := q'; exact ⟨x, e1, e2.mono ks⟩
  | ow ds =>
    obtain ⟨r, xs, e1, e2, _⟩ := q
    obtain ⟨r', xs', f1, f2, f3, f4, f5, f6⟩ := q'
    rw [e1] at f1; cases f1
    exact ⟨r, xs', e1, e2, f3, f4, f5, f6.mono ks⟩
  | dk =>
    obtain ⟨r, ns, e1, e2, _⟩ := q
    obtain ⟨r', ns', f1, f2, f3, f4⟩ := q'
    rw [e1] at f1; cases f1
    exact ⟨r, ns', e1, e2, f3, f4⟩
  | sq ns => obtain ⟨r, e1, e2⟩ := q'; exact ⟨r, e1, same_sq ks e2⟩
theorem de_dl (h : DL_ X δ e fun ds => Ψ (.list ds)) : DE X δ e Ψ := by
  intro C S σ H I Q k
  refine h C S σ H I Q fun p H' xs ds I' f s hp h0 h00 hx hd q => ?_
  have ks : Same (Kn (add S p) H') (Kn S H') := kn_anti fun b z => .inr z
  exact k _ H' _ (Sm.unhid I I' hp) f (.lst (kn_some.mpr ⟨hp, hx⟩) (hd.mono ks)) q

/-! ### operations on data -/
theorem rd_I0 {g : Int → Int → V} {g' : Int → Int → PyData} (hg : ∀ H i j, Dd H (g i j) (g' i j)) {i j : Int} (q : Ψ (g' i j)) : RD X (rI0 g) (.int i) (.int j) Ψ := by
  intro C S σ H δ x y I hx hy Q k
  rw [hx.int_inv, hy.int_inv]
  exact ⟨i, j, rfl, rfl, k _ H _ I (Fd.refl _) (hg _ i j) q⟩
theorem rd_I {Cd : Int → Int → Prop} {g : Int → Int → V} {g' : Int → Int → PyData} (hg : ∀ H i j, Dd H (g i j) (g' i j)) {i j : Int} (hc : Cd i j) (q : Ψ (g' i j)) : RD X (rI Cd g) (.int i) (.int j) Ψ := by
  intro C S σ H δ x y I hx hy Q k
  rw [hx.int_inv, hy.int_inv]
  exact ⟨i, j, rfl, rfl, hc, k _ H _ I (Fd.refl _) (hg _ i j) q⟩
theorem rd_add {i j : Int} (q : Ψ (.int (i + j))) : RD X (rI0 fun i j => .int (i + j)) (.int i) (.int j) Ψ := rd_I0 (g' := fun i j => .int (i + j)) (fun _ _ _ => .int _) q
theorem rd_sub {i j : Int} (q : Ψ (.int (i - j))) : RD X (rI0 fun i j => .int (i - j)) (.int i) (.int j) Ψ := rd_I0 (g' := fun i j => .int (i - j)) (fun _ _ _ => .int _) q
theorem rd_mul {i j : Int} (hc : CMul i j) (q : Ψ (.int (i * j))) : RD X (rI CMul fun i j => .int (i * j)) (.int i) (.int j) Ψ := rd_I (g' := fun i j => .int (i * j)) (fun _ _ _ => .int _) hc q
theorem rd_mod {i j : Int} (hc : 0 < j) (q : Ψ (.int (i % j))) : RD X (rI (fun _ j => 0 < j) fun i j => .int (i % j)) (.int i) (.int j) Ψ := rd_I (g' := fun i j => .int (i % j)) (fun _ _ _ => .int _) hc q
theorem rd_fdiv {i j : Int} (hc : CDiv i j) (q : Ψ (.int (i / j))) : RD X (rI CDiv fun i j => .int (i / j)) (.int i) (.int j) Ψ := rd_I (g' := fun i j => .int (i / j)) (fun _ _ _ => .int _) hc q
theorem rd_pow {i j : Int} (hc : CPow i j) (q : Ψ (.int (i ^ j.toNat))) : RD X (rI CPow fun i j => .int (i ^ j.toNat)) (.int i) (.int j) Ψ := rd_I (g' := fun i j => .int (i ^ j.toNat)) (fun _ _ _ => .int _) hc q
theorem rd_lt {i j : Int} (q : Ψ (.bool (decide (i < j)))) : RD X (rI0 fun i j => .bl (decide (i < j))) (.int i) (.int j) Ψ := rd_I0 (g' := fun i j => .bool (decide (i < j))) (fun _ _ _ => .bl _) q
theorem rd_le {i j : Int} (q : Ψ (.bool (decide (i ≤ j)))) : RD X (rI0 fun i j => .bl (decide (i ≤ j))) (.int i) (.int j) Ψ := rd_I0 (g' := fun i j => .bool (decide (i ≤ j))) (fun _ _ _ => .bl _) q
theorem rd_gt {i j : Int} (q : Ψ (.bool (decide (j < i)))) : RD X (rI0 fun i j => .bl (decide (j < i))) (.int i) (.int j) Ψ := rd_I0 (g' := fun i j => .bool (decide (j < i))) (fun _ _ _ => .bl _) q
theorem rd_eqI {i j : Int} (q : Ψ (.bool (decide (i = j)))) : RD X rEq (.int i) (.int j) Ψ := by
  intro C S σ H δ x y I hx hy Q k
  rw [hx.int_inv, hy.int_inv]
  refine ⟨rfl, ?_⟩
  have e : decide (V.int i = V.int j) = decide (i = j) := by
    by_cases h : i = j
    · subst h; simp
    · simp [h]
  rw [e]
  exact k _ H _ I (Fd.refl _) (.bl _) q
theorem rd_neI {i j : Int} (q : Ψ (.bool (!decide (i = j)))) : RD X rNe (.int i) (.int j) Ψ := by
  intro C S σ H δ x y I hx hy Q k
  rw [hx.int_inv, hy.int_inv]
  refine ⟨rfl, ?_⟩
  have e : decide (V.int i = V.int j) = decide (i = j) := by
    by_cases h : i = j
    · subst h; simp
    · simp [h]
  rw [e]
  exact k _ H _ I (Fd.refl _) (.bl _) q
theorem rd_eqS {i j : Str} (q : Ψ (.bool (decide (i = j)))) : RD X rEq (.str i) (.str j) Ψ := by
  intro C S σ H δ x y I hx hy Q k
  rw [hx.str_inv, hy.str_inv]
  refine ⟨rfl, ?_⟩
  have e : decide (V.str i = V.str j) = decide (i = j) := by
    by_cases h : i = j
    · subst h; simp
    · simp [h]
  rw [e]
  exact k _ H _ I (Fd.refl _) (.bl _) q
theorem rd_neS {i j : Str} (q : Ψ (.bool (!decide (i = j)))) : RD X rNe (.str i) (.str j) Ψ := by
  intro C S σ H δ x y I hx hy Q k
  rw [hx.str_inv, hy.str_inv]
  refine ⟨rfl, ?_⟩
  have e : decide (V.str i = V.str j) = decide (i = j) := by
    by_cases h : i = j
    · subst h; simp
    · simp [h]
  rw [e]
  exact k _ H _ I (Fd.refl _) (.bl _) q
theorem rd_eqD {d1 d2 : PyData} (h1 : SeqAt.shaped d1 = true) (h2 : SeqAt.shaped d2 = true) (q : Ψ (.bool (PyData.eqv d1 d2))) : RD X (rEqD X.K) d1 d2 Ψ := by
  intro C S σ H δ x y I hx hy Q k
  exact ⟨d1, d2, (hx.mono kn_le).dp, (hy.mono kn_le).dp, h1, h2, k _ H _ I (Fd.refl _) (.bl _) q⟩
theorem rd_neD {d1 d2 : PyData} (h1 : SeqAt.shaped d1 = true) (h2 : SeqAt.shaped d2 = true) (q : Ψ (.bool (!PyData.eqv d1 d2))) : RD X (rNeD X.K) d1 d2 Ψ := by
  intro C S σ H δ x y I hx hy Q k
  exact ⟨d1, d2, (hx.mono kn_le).dp, (hy.mono kn_le).dp, h1, h2, k _ H _ I (Fd.refl _) (.bl _) q⟩
theorem rd_inD {d : PyData} {ds : List PyData} (h1 : SeqAt.shaped d = true) (h2 : SeqAt.shaped (.list ds) = true) (q : Ψ (.bool (ds.any fun z => PyData.eqv z d))) : RD X (rInD X.K) d (.list ds) Ψ := by
  intro C S σ H δ x y I hx hy Q k
  exact ⟨d, ds, (hx.mono kn_le).dp, (hy.mono kn_le).dp, h1, h2, k _ H _ I (Fd.refl _) (.bl _) q⟩
theorem rd_notInD {d : PyData} {ds : List PyData} (h1 : SeqAt.shaped d = true) (h2 : SeqAt.shaped (.list ds) = true) (q : Ψ (.bool (!ds.any fun z => PyData.eqv z d))) : RD X (rNotInD X.K) d (.list ds) Ψ := by
  intro C S σ H δ x y I hx hy Q k
  exact ⟨d, ds, (hx.mono kn_le).dp, (hy.mono kn_le).dp, h1, h2, k _ H _ I (Fd.refl _) (.bl _) q⟩
theorem dd_none {H : Hp} {v : V} {d : PyData} (h : Dd H v d) : decide (v = V.non) = (match d with | .none => true | _ => false) := by
  cases h <;> simp
def isNone : PyData → Bool
  | .none => true
  | _ => false
theorem rd_isN {d : PyData} (q : Ψ (.bool (isNone d))) : RD X (fun x y H Q => y = .non ∧ Q (.bl (decide (x = .non))) H) d .none Ψ := by
  intro C S σ H δ x y I hx hy Q k
  have e : decide (x = V.non) = isNone d := by rw [dd_none hx]; cases d <;> rfl
  refine ⟨by cases hy; rfl, ?_⟩
  rw [e]
  exact k _ H _ I (Fd.refl _) (.bl _) q
theorem rd_notN {d : PyData} (q : Ψ (.bool (!isNone d))) : RD X (fun x y H Q => y = .non ∧ Q (.bl (!decide (x = .non))) H) d .none Ψ := by
  intro C S σ H δ x y I hx hy Q k
  have e : decide (x = V.non) = isNone d := by rw [dd_none hx]; cases d <;> rfl
  refine ⟨by cases hy; rfl, ?_⟩
  rw [e]
  exact k _ H _ I (Fd.refl _) (.bl _) q
/-- tuple + tuple -/
theorem rd_catT {ds es : List PyData} (hl : ds.length + es.length ≤ 1000000) (q : Ψ (.tuple (ds ++ es))) : RD X (rCatA X.K) (.tuple ds) (.tuple es) Ψ := by
  intro C S σ H δ x y I hx hy Q k
  obtain ⟨a, xs, rfl, ha, hxs⟩ := hx.tup_inv
  obtain ⟨b, ys, rfl, hb, hys⟩ := hy.tup_inv
  refine ⟨a, b, xs, ys, rfl, rfl, .inl (.inl (kn_le _ _ ha)), .inl (.inl (kn_le _ _ hb)), by rw [hxs.length, hys.length]; exact sizeL hl, fun e => ?_, fun e1 e2 => ?_, fun e1 e2 p hp => ?_⟩
  · subst e
    have e : ds = [] := by cases hxs; rfl
    subst e
    exact k _ H _ I (Fd.refl _) (.tup hb hys) q
  · subst e2
    have e : es = [] := by cases hys; rfl
    subst e
    rw [List.append_nil] at q
    exact k _ H _ I (Fd.refl _) (.tup ha hxs) q
  · have kp : Kn S (upd H p (.tup (xs ++ ys))) p = some (.tup (xs ++ ys)) := kn_some.mpr ⟨(I.fresh hp).2.2.1, upd_same⟩
    have ks := kn_same (S := S) (same_upd (o := .tup (xs ++ ys)) hp)
    exact k _ _ _ (I.same (same_upd hp)) (Fd.of (same_upd hp)) (.tup kp ((hxs.append hys).mono ks)) q
/-- list + list -/
theorem rd_catL {ds es : List PyData} (hl : ds.length + es.length ≤ 1000000) (q : Ψ (.list (ds ++ es))) : RD X rCat (.list ds) (.list es) Ψ := by
  intro C S σ H δ x y I hx hy Q k
  obtain ⟨a, xs, rfl, ha, hxs⟩ := hx.lst_inv
  obtain ⟨b, ys, rfl, hb, hys⟩ := hy.lst_inv
  refine ⟨a, b, xs, ys, rfl, rfl, kn_le _ _ ha, kn_le _ _ hb, by rw [hxs.length, hys.length]; exact sizeL hl, fun p hp => ?_⟩
  have kp : Kn S (upd H p (.lst (xs ++ ys))) p = some (.lst (xs ++ ys)) := kn_some.mpr ⟨(I.fresh hp).2.2.1, upd_same⟩
  have ks := kn_same (S := S) (same_upd (o := .lst (xs ++ ys)) hp)
  exact k _ _ _ (I.same (same_upd hp)) (Fd.of (same_upd hp)) (.lst kp ((hxs.append hys).mono ks)) q
theorem rd_catS {i j : Str} (hl : i.length + j.length ≤ 1000000) (q : Ψ (.str (i ++ j))) : RD X (fun x y H Q => ∃ i j, x = .str i ∧ y = .str j ∧ i.length + j.length ≤ sizeLine ∧ Q (.str (i ++ j)) H) (.str i) (.str j) Ψ := by
  intro C S σ H δ x y I hx hy Q k
  rw [hx.str_inv, hy.str_inv]
  exact ⟨i, j, rfl, rfl, sizeL hl, k _ H _ I (Fd.refl _) (.str _) q⟩
end
end DL

set_option Elab.async false
set_option linter.all false
set_option maxRecDepth 100000
set_option maxHeartbeats 1000000
namespace DL
open PySem PySem.Spec PyProof.Rows L2
section
variable {X : Cx} {δ : List Sl} {Φ : EndsD} {e a b c : Expr} {es : List Expr} {pos p : Pos} {x : Str} {st : Stmt} {sts body els : List Stmt}

/-! ### tests -/
theorem dt_val {Ψ : Bool → Prop} (h : DE X δ e fun d => ∃ k, d = .bool k ∧ Ψ k) (he : ∀ whole, isTrue e X.env whole = (do let v ← whole; standAt e.pos; holding [v] (truthy v)) := by intro _; rfl) : DT X δ e Ψ := by
  intro C S σ H I Q k
  refine tT_of (pt_val pe_tE he) (h C S σ H I _ fun v H' d I' s h' q => ?_)
  obtain ⟨c, rfl, q⟩ := q
  exact ⟨c, h'.bl_inv, k c H' I' s q⟩
theorem dt_not {Ψ : Bool → Prop} (h : DT X δ a fun b => Ψ (!b)) : DT X δ (.UnaryOp .Not a pos) Ψ := by
  intro C S σ H I Q k
  exact tT_of (pt_not pt_tT) (h C S σ H I _ fun b H' I' s q => k _ H' I' s q)
theorem dt_of {Ψ : Bool → Prop} (h : DW X δ e Ψ) : DT X δ e Ψ := by
  intro C S σ H I Q k
  exact tT_of (pw_tW (e := e)).pt (h C S σ H I Q k)
theorem dw_or1 {Ψ : Bool → Prop} (h : DT X δ a Ψ) : DW X δ (.BoolOp .Or [a] pos) Ψ := by
  intro C S σ H I Q k
  exact tW_of (pw_or1 pt_tT) (h C S σ H I Q k)
theorem dw_or {Ψ : Bool → Prop} {rest : List Expr} (h : DT X δ a fun k => if k = true then Ψ true else DW X δ (.BoolOp .Or (b :: rest) pos) Ψ) : DW X δ (.BoolOp .Or (a :: b :: rest) pos) Ψ := by
  intro C S σ H I Q k
  refine tW_of (pw_or pt_tT pw_tW) (h C S σ H I _ fun c H' I' s q => ?_)
  cases c with
  | true => exact k true H' I' s q
  | false => exact (show DW X δ (.BoolOp .Or (b :: rest) pos) Ψ from q) C S σ H' I' Q fun c H2 I2 s2 q2 => k c H2 I2 (s.trans s2) q2
theorem dw_and1 {Ψ : Bool → Prop} (h : DT X δ a Ψ) : DW X δ (.BoolOp .And [a] pos) Ψ := by
  intro C S σ H I Q k
  exact tW_of (pw_and1 pt_tT) (h C S σ H I Q k)
theorem dw_and {Ψ : Bool → Prop} {rest : List Expr} (h : DT X δ a fun k => if k = true then DW X δ (.BoolOp .And (b :: rest) pos) Ψ else Ψ false) : DW X δ (.BoolOp .And (a :: b :: rest) pos) Ψ := by
  intro C S σ H I Q k
  refine tW_of (pw_and pt_tT pw_tW) (h C S σ H I _ fun c H' I' s q => ?_)
  cases c with
  | false => exact k false H' I' s q
  | true => exact (show DW X δ (.BoolOp .And (b :: rest) pos) Ψ from q) C S σ H' I' Q fun c H2 I2 s2 q2 => k c H2 I2 (s.trans s2) q2
theorem de_one {Ψ : PyData → Prop} {op} (h : DE X δ a Ψ) : DE X δ (.BoolOp op [a] pos) Ψ := by
  intro C S σ H I Q k
  exact tE_of (pe_one pe_tE) (h C S σ H I Q k)
theorem de_and {Ψ : PyData → Prop} {rest : List Expr} (h : DE X δ a fun d => ∃ c, d = .bool c ∧ if c = true then DE X δ (.BoolOp .And (b :: rest) pos) Ψ else Ψ (.bool false)) : DE X δ (.BoolOp .And (a :: b :: rest) pos) Ψ := by
  intro C S σ H I Q k
  refine tE_of (pe_and pe_tE pe_tE) (h C S σ H I _ fun v H' d I' s h' q => ?_)
  obtain ⟨c, rfl, q⟩ := q
  refine ⟨c, h'.bl_inv, ?_⟩
  cases c with
  | false => exact k _ H' _ I' s (.bl _) q
  | true => exact (show DE X δ (.BoolOp .And (b :: rest) pos) Ψ from q) C S σ H' I' Q fun c H2 d2 I2 s2 h2 q2 => k c H2 d2 I2 (s.trans s2) h2 q2
theorem de_not {Ψ : PyData → Prop} (h : DE X δ a fun d => ∃ c, d = .bool c ∧ Ψ (.bool (!c))) : DE X δ (.UnaryOp .Not a pos) Ψ := by
  intro C S σ H I Q k
  refine tE_of (pe_not pe_tE) (h C S σ H I _ fun v H' d I' s h' q => ?_)
  obtain ⟨c, rfl, q⟩ := q
  exact ⟨c, h'.bl_inv, k _ H' _ I' s (.bl _) q⟩
theorem de_if {Ψ : PyData → Prop} (h : DT X δ c fun k => if k = true then DE X δ a Ψ else DE X δ b Ψ) : DE X δ (.IfExp c a b pos) Ψ := by
  intro C S σ H I Q k
  refine tE_of (pe_ifExp pt_tT pe_tE pe_tE) (h C S σ H I _ fun c H' I' s q => ?_)
  cases c with
  | true => exact (show DE X δ a Ψ from q) C S σ H' I' Q fun c H2 d2 I2 s2 h2 q2 => k c H2 d2 I2 (s.trans s2) h2 q2
  | false => exact (show DE X δ b Ψ from q) C S σ H' I' Q fun c H2 d2 I2 s2 h2 q2 => k c H2 d2 I2 (s.trans s2) h2 q2
/-- a < b < c -/
theorem dt_chain {Ψ : Bool → Prop} {op op' : CmpOp} {r r' : R2} (ho : OpR X (compareOp op) r) (ho' : OpR X (compareOp op') r')
    (h : DE X δ a fun d1 => DE X δ b fun d2 => RD X r d1 d2 fun d => ∃ k, d = .bool k ∧ if k = true then DE X δ c fun d3 => RD X r' d2 d3 fun d => ∃ k, d = .bool k ∧ Ψ k else Ψ false)
    (hm : lastMarks [op, op'] [b, c] = false := by with_unfolding_all rfl) : DT X δ (.Compare a [op, op'] [b, c] pos) Ψ := by
  intro C S σ H I Q k
  refine tT_of (pt_chain ho ho' pe_tE pe_tE pe_tE hm) (two h I fun x y H' d1 d2 I' s h1 h2 q => ?_)
  refine q C S σ H' δ x y I' h1 h2 _ fun v H2 d I2 s2 h3 q3 => ?_
  obtain ⟨k1, rfl, q3⟩ := q3
  refine ⟨k1, h3.bl_inv, ?_⟩
  cases k1 with
  | false =>
    exact ⟨false, rfl, k false H2 I2 (s.trans s2) q3⟩
  | true =>
    refine (show DE X δ c _ from q3) C S σ H2 I2 _ fun z H3 d3 I3 s3 h4 q4 => ?_
    refine q4 C S σ H3 δ y z I3 ((h2.mono (s2.kn I')).mono (s3.kn I2)) h4 _ fun v H4 d4 I4 s4 h5 q5 => ?_
    obtain ⟨k2, rfl, q5⟩ := q5
    exact ⟨k2, h5.bl_inv, k k2 H4 I4 (((s.trans s2).trans s3).trans s4) q5⟩

/-! ### statements -/
theorem dss_nil (q : Φ.nx δ) : DSs X δ [] Φ := fun C S σ H D I k => tSs_of pss_nil (k.nx S σ H δ q I (Same.refl _))
theorem dss_cons (h : DS X δ st { Φ with nx := fun δ' => DSs X δ' sts Φ }) : DSs X δ (st :: sts) Φ := by
  intro C S σ H D I k
  refine tSs_of (pss_cons ps_tS pss_tSs) (h C S σ H _ I ⟨fun S' σ' H' δ' q I' s => ?_, k.rt, k.bk, k.ct⟩)
  exact q C S' σ' H' D I' (k.mono s)
theorem dss_frz {ds : List PyData} (i : Nat) (h : δ[i]? = some (.ow ds)) (q : DSs X (δ.set i (.dt (.list ds))) sts Φ) : DSs X δ sts Φ := by
  intro C S σ H D I k
  obtain ⟨S', I', s⟩ := I.frz h
  exact q C S' σ H D I' (k.mono s)
theorem dss_forget (i : Nat) (q : DSs X (δ.set i .no) sts Φ) : DSs X δ sts Φ := by
  intro C S σ H D I k
  by_cases hi : i < σ.length
  · have I' := I.setn i (σ[i])
    rw [show σ.set i σ[i] = σ from List.set_getElem_self hi] at I'
    exact q C S σ H D I' k
  · rw [List.set_eq_of_length_le (by rw [← I.len]; omega)] at q
    exact q C S σ H D I k
theorem ds_if (h : DT X δ c fun k => if k = true then DSs X δ body Φ else DSs X δ els Φ) : DS X δ (.If c body els pos) Φ := by
  intro C S σ H D I k
  refine tS_of (ps_if pt_tT pss_tSs pss_tSs) (h C S σ H I _ fun c H' I' s q => ?_)
  cases c with
  | true => exact (show DSs X δ body Φ from q) C S σ H' D I' (k.mono (s.kn I))
  | false => exact (show DSs X δ els Φ from q) C S σ H' D I' (k.mono (s.kn I))
theorem ds_ret (h : DE X δ e Φ.rt) : DS X δ (.Return (some e) pos) Φ := by
  intro C S σ H D I k
  exact tS_of (ps_ret pe_tE) (h C S σ H I _ fun v H' d I' s h' q => k.rt v H' d q I'.rtf (h'.mono I'.knS0))
theorem ds_never (h : False) : DS X δ st Φ := h.elim
theorem ds_set (i : Nat) {y : Str} {py : Pos} (h : DE X δ e fun d => Φ.nx (δ.set i (.dt d))) (hN : X.N.Nodup) (hi : X.N[i]? = some y := by rfl) (hx : Loc X.env.scope y := by first | exact Or.inl rfl | exact Or.inr rfl)
    (hs : swapsWith e (some (.Name y py)) pos.line X.env = pure false := by rfl) (hf : X.fn y = true ∨ X.env.scope.names.lookup y = some .local := by first | exact .inl rfl | exact .inr rfl) : DS X δ (.Assign [.Name y py] e pos) Φ := by
  intro C S σ H D I k
  refine tS_of (ps_set hN hi hx pe_tE hs hf) (h C S σ H I _ fun v H' d I' s h' q => ?_)
  exact k.nx S _ H' _ q (I'.setd h') (s.kn I)
/-- a slot takes a list of its own -/
theorem own_end {ds : List PyData} {C : Cc} {S : Addr → Prop} {σ : L2.St} {H H' : Hp} {D : Ends} {p : Addr} {xs : List V} (i : Nat) (I : Sm X.K C S σ H δ) (k : EOk X.K C (Kn S H) D Φ) (I' : Sm X.K C (add S p) σ H' δ) (s : Same (Kn S H) (Kn (add S p) H'))
    (f3 : ¬ S p) (f1 : C.H0 p = none) (f4 : ¬ C.S0 p) (hp : H' p = some (.lst xs)) (hd : Dds (Kn (add S p) H') xs ds) (q : Φ.nx (δ.set i (.ow ds))) : D.nx (σ.set i (some (.ref p))) H' := by
  refine k.nx (add S p) _ H' _ q (I'.own (i := i) (p := p) (xs := xs) (fun j s h1 h2 => ?_) ⟨p, xs, rfl, .inl rfl, f4, f1, hp, hd⟩) s
  exact I.noslot f3 j s h1 h2
theorem ds_own (i : Nat) {y : Str} {py : Pos} (h : DL_ X δ e fun ds => Φ.nx (δ.set i (.ow ds))) (hN : X.N.Nodup) (hi : X.N[i]? = some y := by rfl) (hx : Loc X.env.scope y := by first | exact Or.inl rfl | exact Or.inr rfl)
    (hs : swapsWith e (some (.Name y py)) pos.line X.env = pure false := by rfl) (hf : X.fn y = true ∨ X.env.scope.names.lookup y = some .local := by first | exact .inl rfl | exact .inr rfl) : DS X δ (.Assign [.Name y py] e pos) Φ := by
  intro C S σ H D I k
  refine tS_of (ps_set hN hi hx pe_tE hs hf) (h C S σ H I _ fun p H' xs ds I' f s h3 h1 h4 hp hd q => ?_)
  exact own_end i I k I' s h3 h1 h4 hp hd q
/-- a, b = e -/
theorem ds_unpack (i j : Nat) {y z : Str} {py pz pt : Pos} {kk} (h : DE X δ e fun d => ∃ d1 d2, d = .tuple [d1, d2] ∧ Φ.nx ((δ.set i (.dt d1)).set j (.dt d2))) (hN : X.N.Nodup) (hc : X.calm = true := by rfl) (hi : X.N[i]? = some y := by rfl) (hj : X.N[j]? = some z := by rfl)
    (hx : Loc X.env.scope y := by first | exact Or.inl rfl | exact Or.inr rfl) (hz : Loc X.env.scope z := by first | exact Or.inl rfl | exact Or.inr rfl)
    (hf : X.fn y = true ∨ X.env.scope.names.lookup y = some .local := by first | exact .inl rfl | exact .inr rfl) (hg : X.fn z = true ∨ X.env.scope.names.lookup z = some .local := by first | exact .inl rfl | exact .inr rfl)
    (hs : swapsWithSole [.Tuple [.Name y py, .Name z pz] kk pt] e pos.line X.env = pure false := by rfl) (hw : swappedStores [.Tuple [.Name y py, .Name z pz] kk pt] e X.env = pure none := by rfl)
    (h1 : (assignEach [.Tuple [.Name y py, .Name z pz] kk pt] X.env).map (·.2) = [assign (.Tuple [.Name y py, .Name z pz] kk pt) X.env] := by rfl) (hn : (assignEach [.Name y py, .Name z pz] X.env).length = 2 := by rfl)
    (hst : (assignEach [.Name y py, .Name z pz] X.env).findIdx? (·.1) = none := by rfl) : DS X δ (.Assign [.Tuple [.Name y py, .Name z pz] kk pt] e pos) Φ := by
  intro C S σ H D I k
  refine tS_of (ps_asg pe_tE (pg_tup hc (pgs_cons (pg_name hN hi hx hf) (pgs_cons (pg_name hN hj hz hg) pgs_nil)) hn hst) hs hw h1) (h C S σ H I _ fun v H' d I' s h' q => ?_)
  obtain ⟨d1, d2, rfl, q⟩ := q
  obtain ⟨a, xs, rfl, ha, hxs⟩ := h'.tup_inv
  cases hxs with
  | cons g1 r =>
    cases r with
    | cons g2 r =>
      cases r
      exact ⟨a, _, rfl, .inl (.inl (kn_le _ _ ha)), rfl, _, _, rfl, _, _, rfl, rfl, k.nx S _ H' _ q ((I'.setd g1).setd g2) (s.kn I)⟩
/-- own.append(e) -/
theorem ds_append {ds : List PyData} (i : Nat) {y : Str} {py pa pc : Pos} (ho : δ[i]? = some (.ow ds)) (hl : ds.length < 1000000) (h : DE X δ e fun d => Φ.nx (δ.set i (.ow (ds ++ [d])))) (hN : X.N[i]? = some y := by rfl)
    (hv : Vis X.env.scope y := by first | exact Or.inl rfl | exact Or.inr (Or.inl rfl) | exact Or.inr (Or.inr rfl)) (hdb : (y == ("__debug__" : Str)) = false := by decide) (hcd : (y == ("__classdict__" : Str)) = false := by decide)
    (hbase : attributeBase (.Name y py) "append" X.env (eval (.Name y py) X.env) = eval (.Name y py) X.env := by rfl)
    (hfew : ((backTo pc (starEach [e] X.env)).all (fun x => !x.1) && (backToKw pc (keywordEach [] X.env)).all (fun x => x.1.isSome)
      && decide (([e] : List Expr).length + ([] : List Keyword).length + (if ([] : List Keyword).isEmpty then 0 else 1) < 30)) = true := by rfl)
    (hline : (pa.endLine == pc.line) = true := by rfl) (hs : starEach [e] X.env = (false, eval e X.env) :: starEach [] X.env := by rfl) (hplain : (backTo pc (starEach [] X.env)).any (·.1) = false := by rfl)
    (hsw : swapsWith (.Call (.Attribute (.Name y py) "append" pa) [e] [] pc) none pos.line X.env = pure false := by rfl) : DS X δ (.Expr (.Call (.Attribute (.Name y py) "append" pa) [e] [] pc) pos) Φ := by
  intro C S σ H D I k
  obtain ⟨v, hv', p, xs, rfl, hS, h0, hn, hp, hd⟩ := I.at_ ho
  refine tS_of (ps_expr (pe_bm PySem.F.plainAttrs_list PySem.F.slot_list_append PySem.F.type_list_append mt_append (pe_var hN hv hdb hcd) (pa_cons pe_tE pa_nil hs) hbase hfew hline hs hplain) hsw) ?_
  refine ⟨.ref p, hv', .inl ⟨rfl, xs, .inl (.inl hp)⟩, ?_⟩
  refine h C S σ H I _ fun w H' d I' s h' q => ?_
  obtain ⟨v2, hv2, p2, xs2, e2, hS2, h02, hn2, hp2, hd2⟩ := I'.at_ ho
  rw [hv'] at hv2
  cases hv2; cases e2
  refine ⟨p, xs2, w, rfl, rfl, hp2, by rw [hd2.length]; exact sizeLt (by omega), ?_⟩
  obtain ⟨I3, s3⟩ := I'.mutd ho hv' (hd2.append (.one h'))
  exact k.nx S σ _ _ q I3 ((s.kn I).trans s3)
/-- own[k] = e -/
theorem ds_setitem {ds : List PyData} (i : Nat) {y : Str} {py pt : Pos} (ho : δ[i]? = some (.ow ds)) (h : DE X δ e fun d1 => DE X δ b fun d2 => ∃ n : Nat, d2 = .int n ∧ n < ds.length ∧ Φ.nx (δ.set i (.ow (ds.set n d1)))) (hN : X.N[i]? = some y := by rfl)
    (hv : Vis X.env.scope y := by first | exact Or.inl rfl | exact Or.inr (Or.inl rfl) | exact Or.inr (Or.inr rfl)) (hdb : (y == ("__debug__" : Str)) = false := by decide) (hcd : (y == ("__classdict__" : Str)) = false := by decide)
    (hg : ∀ to ti t, PE X (.Name y py) to → PE X b ti → PSet X t → PG X (.Subscript (.Name y py) b pt) (gSub to ti t))
    (hs : swapsWithSole [.Subscript (.Name y py) b pt] e pos.line X.env = pure false := by rfl) (hw : swappedStores [.Subscript (.Name y py) b pt] e X.env = pure none := by rfl)
    (h1 : (assignEach [.Subscript (.Name y py) b pt] X.env).map (·.2) = [assign (.Subscript (.Name y py) b pt) X.env] := by rfl) : DS X δ (.Assign [.Subscript (.Name y py) b pt] e pos) Φ := by
  intro C S σ H D I k
  refine tS_of (ps_asg pe_tE (hg _ _ _ (pe_var hN hv hdb hcd) pe_tE set_list) hs hw h1) ?_
  refine h C S σ H I _ fun w H' d I' s h' q => ?_
  obtain ⟨v2, hv2, p, xs2, e2, hS2, h02, hn2, hp2, hd2⟩ := I'.at_ ho
  subst e2
  refine ⟨.ref p, hv2, ?_⟩
  refine q C S σ H' I' _ fun u H2 d2 I2 s2 h2 q2 => ?_
  obtain ⟨n, rfl, hlt, q2⟩ := q2
  obtain ⟨v3, hv3, p3, xs3, e3, hS3, h03, hn3, hp3, hd3⟩ := I2.at_ ho
  rw [hv2] at hv3
  cases hv3; cases e3
  refine ⟨p, xs3, n, n, rfl, h2.int_inv, hp3, ?_, ?_⟩
  · unfold ixN
    rw [if_pos (by omega), if_pos (by rw [hd3.length]; omega)]
    simp
  · obtain ⟨I4, s4⟩ := I2.mutd ho hv2 (hd3.set (i := n) (h'.mono (s2.kn I')))
    exact k.nx S σ _ _ q2 I4 (((s.kn I).trans (s2.kn I')).trans s4)
/-- y = own.pop(0) -/
theorem ds_while {c : Expr} (Pv : Nat → List Sl → Prop) (m0 : Nat) (h0 : Pv m0 δ)
    (hs : ∀ m δ', Pv m δ' → DT X δ' c fun k => if k = true then DSs X δ' body { nx := fun δ2 => ∃ m', m' < m ∧ Pv m' δ2, rt := Φ.rt, bk := Φ.nx, ct := fun δ2 => ∃ m', m' < m ∧ Pv m' δ2 } else Φ.nx δ')
    (hp : PassesOwn (model X.prog X.w) X.A X.env X.xe) : DS X δ (.While c body [] pos) Φ := by
  intro C S σ H D I k
  refine tS_of (ps_while hp pt_tT pss_tSs) ⟨fun m σ' H' => ∃ S' δ', Pv m δ' ∧ Sm X.K C S' σ' H' δ' ∧ Same (Kn S H) (Kn S' H'), ⟨m0, S, δ, h0, I, Same.refl _⟩, ?_⟩
  rintro m σ' H' ⟨S', δ', hP, I', s⟩
  refine hs m δ' hP C S' σ' H' I' _ fun b H2 I2 s2 q => ?_
  have s3 : Same (Kn S H) (Kn S' H2) := s.trans (s2.kn I')
  cases b with
  | false => exact k.nx S' σ' H2 δ' q I2 s3
  | true =>
    refine ⟨fun σ3 H3 => ∃ m', m' < m ∧ ∃ S' δ', Pv m' δ' ∧ Sm X.K C S' σ3 H3 δ' ∧ Same (Kn S H) (Kn S' H3), fun _ _ z => z, ?_⟩
    refine (show DSs X δ' body _ from q) C S' σ' H2 _ I2 ⟨fun S4 σ4 H4 δ4 p4 I4 s4 => ?_, k.rt, fun S4 σ4 H4 δ4 p4 I4 s4 => k.nx S4 σ4 H4 δ4 p4 I4 (s3.trans s4), fun S4 σ4 H4 δ4 p4 I4 s4 => ?_⟩
    · obtain ⟨m', hm, p4⟩ := p4
      exact ⟨m', hm, S4, δ4, p4, I4, s3.trans s4⟩
    · obtain ⟨m', hm, p4⟩ := p4
      exact ⟨m', hm, S4, δ4, p4, I4, s3.trans s4⟩
end

/-! ### what is walked -/
structure WalkD (G : Hp) (J : It) (its : List PyData) : Prop where
  goes : ∀ (i : Nat) H2, Same G H2 → i < its.length → J.go i H2
  stops : ∀ H2, Same G H2 → J.stop its.length H2
  yields : ∀ (i : Nat) H2 x H3, Same G H2 → i < its.length → J.yld i H2 x H3 → Same H2 H3 ∧ ∃ d, its[i]? = some d ∧ ∀ S' : Addr → Prop, (∀ b, S' b → H2 b ≠ none) → Same G (Kn S' H2) → Dd (Kn S' H3) x d
def DI (X : Cx) (δ : List Sl) (tg iter : Expr) (Ψ : List PyData → Prop) : Prop := ∀ (C : Cc) (S : Addr → Prop) (σ : L2.St) (H : Hp), Sm X.K C S σ H δ → ∀ R : It → Hp → Prop,
  (∀ J H' its, Sm X.K C S σ H' δ → Fd σ δ H H' → WalkD (Kn S H') J its → Ψ its → R J H') → tI X tg iter σ H R
section
variable {X : Cx} {δ : List Sl} {Φ : EndsD} {e a b c tg iter : Expr} {es : List Expr} {pos p : Pos} {x : Str} {st : Stmt} {sts body els : List Stmt}
theorem di_list {Ψ : List PyData → Prop} (h : DE X δ iter fun d => ∃ ds, d = .list ds ∧ Ψ ds) : DI X δ tg iter Ψ := by
  intro C S σ H I R k
  refine tI_of (pi_list pe_tE) (h C S σ H I _ fun v H' d I' s h' q => ?_)
  obtain ⟨ds, rfl, q⟩ := q
  obtain ⟨a, xs, rfl, ha, hx⟩ := h'.lst_inv
  have sq : ∀ H2, Same (Kn S H') H2 → SqL X.K H2 a xs := fun H2 g => .inl (.inl (g _ _ ha))
  refine ⟨a, rfl, ⟨xs, sq _ kn_le⟩, k _ H' ds I' s ⟨fun i H2 g hi => ?_, fun H2 g => ⟨xs, sq H2 g, by rw [hx.length]; exact Nat.le_refl _⟩, fun i H2 y H3 g hi hy => ?_⟩ q⟩
  · have hi' : i < xs.length := by rw [hx.length]; exact hi
    exact ⟨xs, xs[i], sq H2 g, List.getElem?_eq_getElem hi'⟩
  · obtain ⟨rfl, hy⟩ := hy
    refine ⟨Same.refl _, ds[i], List.getElem?_eq_getElem hi, fun S' hl gs => ?_⟩
    obtain ⟨v, hv, hd⟩ := hx.get (List.getElem?_eq_getElem hi)
    have e := hy xs (sq _ g)
    rw [hv] at e
    cases e
    exact hd.mono gs
theorem di_tup {Ψ : List PyData → Prop} (h : DE X δ iter fun d => ∃ ds, d = .tuple ds ∧ Ψ ds) : DI X δ tg iter Ψ := by
  intro C S σ H I R k
  refine tI_of (pi_tup pe_tE) (h C S σ H I _ fun v H' d I' s h' q => ?_)
  obtain ⟨ds, rfl, q⟩ := q
  obtain ⟨a, xs, rfl, ha, hx⟩ := h'.tup_inv
  have sq : ∀ H2, Same (Kn S H') H2 → SqT X.K H2 a xs := fun H2 g => .inl (.inl (g _ _ ha))
  refine ⟨a, rfl, ⟨xs, sq _ kn_le⟩, k _ H' ds I' s ⟨fun i H2 g hi => ?_, fun H2 g => ⟨xs, sq H2 g, by rw [hx.length]; exact Nat.le_refl _⟩, fun i H2 y H3 g hi hy => ?_⟩ q⟩
  · have hi' : i < xs.length := by rw [hx.length]; exact hi
    exact ⟨xs, xs[i], sq H2 g, List.getElem?_eq_getElem hi'⟩
  · obtain ⟨rfl, hy⟩ := hy
    refine ⟨Same.refl _, ds[i], List.getElem?_eq_getElem hi, fun S' hl gs => ?_⟩
    obtain ⟨v, hv, hd⟩ := hx.get (List.getElem?_eq_getElem hi)
    have e := hy xs (sq _ g)
    rw [hv] at e
    cases e
    exact hd.mono gs
def rngD (n : Nat) : List PyData := (List.range n).map fun i => .int (i : Nat)
theorem rngD_len (n : Nat) : (rngD n).length = n := by unfold rngD; rw [List.length_map, List.length_range]
theorem rngD_get {n i : Nat} {d : PyData} (h : (rngD n)[i]? = some d) : i < n ∧ d = .int (i : Nat) := by
  have hi : i < n := by have := (List.getElem?_eq_some_iff.mp h).1; rwa [rngD_len] at this
  refine ⟨hi, ?_⟩
  unfold rngD at h
  rw [List.getElem?_map, List.getElem?_range hi] at h
  exact (Option.some.inj h).symm
theorem di_range {Ψ : List PyData → Prop} {pc : Pos} (hm : X.mg "range" = none) (h : DE X δ a fun d => ∃ n : Nat, d = .int n ∧ n ≤ 1000000 ∧ Ψ (rngD n)) (hg : Gl X "range" := by rfl)
    (hs0 : starEach (a :: []) X.env = (false, eval a X.env) :: starEach [] X.env := by rfl) (hs : starEach [a] X.env = [(false, eval a X.env)] := by rfl) : DI X δ tg (.Call (.Name "range" pc) [a] [] pos) Ψ := by
  intro C S σ H I R k
  refine tI_of (pi_range1 hg hm (pa_cons pe_tE pa_nil hs0) hs) (h C S σ H I _ fun v H' d I' s h' q => ?_)
  obtain ⟨n, rfl, hn, q⟩ := q
  refine ⟨n, by rw [h'.int_inv], by omega, by omega, ?_⟩
  rw [Int.toNat_natCast]
  refine k _ H' _ I' s ⟨fun i H2 g hi => ?_, fun H2 g => ?_, fun i H2 y H3 g hi hy => ?_⟩ q
  · rw [rngD_len] at hi; exact hi
  · rw [rngD_len]; exact Nat.le_refl _
  · obtain ⟨rfl, rfl⟩ := hy
    rw [rngD_len] at hi
    refine ⟨Same.refl _, .int (i : Nat), ?_, fun S' hl gs => ?_⟩
    · unfold rngD
      rw [List.getElem?_map, List.getElem?_range hi] <;> rfl
    · have e : (0 : Int) + (i : Int) = (i : Int) := by omega
      rw [e]
      exact .int _
def zipD (xs ys : List PyData) : List PyData := List.zipWith (fun x y => .tuple [x, y]) xs ys
theorem zipD_get {xs ys : List PyData} {i : Nat} {d : PyData} (h : (zipD xs ys)[i]? = some d) : ∃ x y, xs[i]? = some x ∧ ys[i]? = some y ∧ d = .tuple [x, y] := by
  unfold zipD at h
  rw [List.getElem?_zipWith] at h
  cases e1 : xs[i]? with
  | none => rw [e1] at h; simp at h
  | some x =>
    cases e2 : ys[i]? with
    | none => rw [e1, e2] at h; simp at h
    | some y => rw [e1, e2] at h; exact ⟨x, y, rfl, rfl, (Option.some.inj h).symm⟩
theorem di_zip {Ψ : List PyData → Prop} {pc pt : Pos} {elts : List Expr} {kk : Nat} (hm : X.mg "zip" = none)
    (h : DE X δ a fun d1 => DE X δ b fun d2 => ∃ xs ys, ((d1 = .list xs ∧ d2 = .list ys) ∨ (d1 = .tuple xs ∧ d2 = .tuple ys)) ∧ Ψ (zipD xs ys)) (hg : Gl X "zip" := by rfl)
    (hs1 : starEach (b :: []) X.env = (false, eval b X.env) :: starEach [] X.env := by rfl)
    (hs : starEach [a, b] X.env = (false, eval a X.env) :: starEach [b] X.env := by rfl) (hpl : (backTo pos (starEach [b] X.env)).any (·.1) = false := by rfl) : DI X δ (.Tuple elts kk pt) (.Call (.Name "zip" pc) [a, b] [] pos) Ψ := by
  intro C S σ H I R k
  refine tI_of (RZ.pi_zipA hg hm (pa_cons pe_tE (pa_cons pe_tE pa_nil hs1) hs) hs hpl) (two h I fun v w H' d1 d2 I' s h1 h2 q => ?_)
  obtain ⟨ds, es, hor, q⟩ := q
  rcases hor with ⟨rfl, rfl⟩ | ⟨rfl, rfl⟩
  · obtain ⟨a', xs, rfl, ha, hx⟩ := h1.lst_inv
    obtain ⟨b', ys, rfl, hb, hy⟩ := h2.lst_inv
    have sa : ∀ H2, Same (Kn S H') H2 → SqL X.K H2 a' xs := fun H2 g => .inl (.inl (g _ _ ha))
    have sb : ∀ H2, Same (Kn S H') H2 → SqL X.K H2 b' ys := fun H2 g => .inl (.inl (g _ _ hb))
    have hlen : (zipD ds es).length = min xs.length ys.length := by unfold zipD; rw [List.length_zipWith, hx.length, hy.length]
    refine ⟨a', b', xs, ys, rfl, .inl ⟨sa _ kn_le, sb _ kn_le, k _ H' _ I' s ⟨fun i H2 g hi => ?_, fun H2 g => ⟨xs, ys, sa H2 g, sb H2 g, by rw [hlen]; omega⟩, fun i H2 y H3 g hi hyl => ?_⟩ q⟩⟩
    · rw [hlen] at hi
      exact ⟨xs, ys, xs[i]'(by omega), ys[i]'(by omega), sa H2 g, sb H2 g, List.getElem?_eq_getElem _, List.getElem?_eq_getElem _⟩
    · obtain ⟨T, v1, v2, rfl, hT, rfl, f1, f2⟩ := hyl
      rw [hlen] at hi
      have hid : i < ds.length := by rw [← hx.length]; omega
      have hie : i < es.length := by rw [← hy.length]; omega
      obtain ⟨u1, hu1, hd1⟩ := hx.get (List.getElem?_eq_getElem hid)
      obtain ⟨u2, hu2, hd2⟩ := hy.get (List.getElem?_eq_getElem hie)
      have e1 := f1 xs (sa H2 g)
      have e2 := f2 ys (sb H2 g)
      rw [hu1] at e1; rw [hu2] at e2
      cases e1; cases e2
      refine ⟨same_upd hT, .tuple [ds[i], es[i]], ?_, fun S' hl gs => ?_⟩
      · unfold zipD
        rw [List.getElem?_zipWith, List.getElem?_eq_getElem hid, List.getElem?_eq_getElem hie]
      · have kp : Kn S' (upd H2 T (.tup [v1, v2])) T = some (.tup [v1, v2]) := kn_some.mpr ⟨fun z => hl T z hT, upd_same⟩
        have ks := gs.trans (kn_same (S := S') (same_upd (o := .tup [v1, v2]) hT))
        exact .tup kp (.cons (hd1.mono ks) (.cons (hd2.mono ks) .nil))
  · obtain ⟨a', xs, rfl, ha, hx⟩ := h1.tup_inv
    obtain ⟨b', ys, rfl, hb, hy⟩ := h2.tup_inv
    have sa : ∀ H2, Same (Kn S H') H2 → SqT X.K H2 a' xs := fun H2 g => .inl (.inl (g _ _ ha))
    have sb : ∀ H2, Same (Kn S H') H2 → SqT X.K H2 b' ys := fun H2 g => .inl (.inl (g _ _ hb))
    have hlen : (zipD ds es).length = min xs.length ys.length := by unfold zipD; rw [List.length_zipWith, hx.length, hy.length]
    refine ⟨a', b', xs, ys, rfl, .inr ⟨sa _ kn_le, sb _ kn_le, k _ H' _ I' s ⟨fun i H2 g hi => ?_, fun H2 g => ⟨xs, ys, sa H2 g, sb H2 g, by rw [hlen]; omega⟩, fun i H2 y H3 g hi hyl => ?_⟩ q⟩⟩
    · rw [hlen] at hi
      exact ⟨xs, ys, xs[i]'(by omega), ys[i]'(by omega), sa H2 g, sb H2 g, List.getElem?_eq_getElem _, List.getElem?_eq_getElem _⟩
    · obtain ⟨T, v1, v2, rfl, hT, rfl, f1, f2⟩ := hyl
      rw [hlen] at hi
      have hid : i < ds.length := by rw [← hx.length]; omega
      have hie : i < es.length := by rw [← hy.length]; omega
      obtain ⟨u1, hu1, hd1⟩ := hx.get (List.getElem?_eq_getElem hid)
      obtain ⟨u2, hu2, hd2⟩ := hy.get (List.getElem?_eq_getElem hie)
      have e1 := f1 xs (sa H2 g)
      have e2 := f2 ys (sb H2 g)
      rw [hu1] at e1; rw [hu2] at e2
      cases e1; cases e2
      refine ⟨same_upd hT, .tuple [ds[i], es[i]], ?_, fun S' hl gs => ?_⟩
      · unfold zipD
        rw [List.getElem?_zipWith, List.getElem?_eq_getElem hid, List.getElem?_eq_getElem hie]
      · have kp : Kn S' (upd H2 T (.tup [v1, v2])) T = some (.tup [v1, v2]) := kn_some.mpr ⟨fun z => hl T z hT, upd_same⟩
        have ks := gs.trans (kn_same (S := S') (same_upd (o := .tup [v1, v2]) hT))
        exact .tup kp (.cons (hd1.mono ks) (.cons (hd2.mono ks) .nil))
end
end DL

set_option Elab.async false
set_option linter.all false
set_option maxRecDepth 100000
set_option maxHeartbeats 1000000
namespace DL
open PySem PySem.Spec PyProof.Rows L2

/-! ### enumerate(tuple) -/
theorem meets_enum1 {v : Value} {o : Obj} {H : Heap → Prop} (B : Begins v o H) :
    Meets (Builtin.«enumerate.__new__» ⟨[.type "enumerate", v], []⟩) (fun _ R s => H s.heap ∧
      R (.ok (.ret (.ref (s.heap.push o).objs.size))) { s with heap := (s.heap.push o).push { cls := .type "enumerate", data := .fields #[.none, .bool false, .ref s.heap.objs.size, rawInt 0, .none, .none] } }) :=
  .of_wp fun prog w A R s h => by
    obtain ⟨hp, g, d, tk, os⟩ := s; obtain ⟨h1, h⟩ := h
    have hsub := sub_enumerate
    have q1 : ∀ {A' : Around} {E : Value → Shared → Prop} {Q : Value → Shared → Prop}, Q (.ref hp.objs.size) ⟨hp.push o, g, d, tk, os⟩ → wpAny (model prog w) A' (pyIter v) Q E ⟨hp, g, d, tk, os⟩ :=
      fun q => B.iter prog w _ _ ⟨hp, g, d, tk, os⟩ _ h1 q
    wp_walk using q1
    refine wpAny_stack_any fun st => wpAny_pure ?_
    split
    · rename_i c _ _ _ _ _
      cases (c == Value.type "enumerate")
      · wp_walk using q1
        exact ⟨_, rfl, h⟩
      · wp_walk using q1
        exact ⟨_, rfl, h⟩
    · wp_walk using q1
      exact ⟨_, rfl, h⟩
section
variable {prog : Program} {w : World} {A : Around} {E : Value → Shared → Prop} {s : Shared}
theorem call_enum1 {v : Value} {o : Obj} {H : Heap → Prop} {Q : Value → Shared → Prop} (B : Begins v o H) (h1 : H s.heap)
    (h : ∀ h', IsEnum h' (s.heap.objs.size + 1) s.heap.objs.size 0 .none → h'.get? s.heap.objs.size = some o → h'.objs.size = s.heap.objs.size + 2 →
      (∀ b o, s.heap.get? b = some o → h'.get? b = some o) → Q (.ref (s.heap.objs.size + 1)) { s with heap := h' }) :
    wpAny (model prog w) A (call (.type "enumerate") [v]) Q E s := by
  refine callType_new F.called_enumerate (by decide) (F.typeCall_enumerate_1 _) (F.newCall_enumerate_1 _) (fun obj => F.args_object_init_2 obj _) F.entry_enumerate_new
    (meets_enum1 B) ⟨h1, ?_⟩
  have hz : (s.heap.push o).objs.size = s.heap.objs.size + 1 := Heap.size_push ..
  show _ ∧ _
  rw [hz]
  have he : IsEnum ((s.heap.push o).push { cls := .type "enumerate", data := .fields #[.none, .bool false, .ref s.heap.objs.size, rawInt 0, .none, .none] }) (s.heap.objs.size + 1) s.heap.objs.size 0 .none := by
    have := Heap.get?_push_size (s.heap.push o) (o := { cls := .type "enumerate", data := .fields #[.none, .bool false, .ref s.heap.objs.size, rawInt 0, .none, .none] }) rfl
    rw [hz] at this; exact this
  refine ⟨⟨_, he, rfl⟩, h _ he (Heap.get?_push_of_some _ (Heap.get?_push_size _ B.free)) (by rw [Heap.size_push, hz]) fun b o x => Heap.get?_push_of_some _ (Heap.get?_push_of_some _ x)⟩
end
/-- the tuple at a, each item in a new pair -/
def IteT (K : PySem.W.Frag) (a : Addr) : It :=
  ⟨fun i H => ∃ (xs : List V) (x : V), SqT K H a xs ∧ xs[i]? = some x, fun i H v H' => ∃ T x, v = .ref T ∧ H T = none ∧ H' = upd H T (.tup [.int (i : Nat), x]) ∧ ∀ xs, SqT K H a xs → xs[i]? = some x, fun i H => ∃ xs : List V, SqT K H a xs ∧ xs.length = i⟩
theorem turn_enumT {P : Program} {w : World} {K : PySem.W.Frag} {elts : List Expr} {kk : Nat} {tpos : Pos} (a e it : Addr) (hai : a ≠ it) (hea : e ≠ a) :
    Turn P w K (.Tuple elts kk tpos) (IteT K a) [e, it] e (fun i h => (∃ old, IsEnum h e it ((i : Nat) : Int) old) ∧ h.IsTupleIter it a i ∧ e ≠ it) where
  mem := by simp
  obj := fun i h st b hb => by
    obtain ⟨⟨old, he⟩, ⟨o, ho, hc, hd⟩, _⟩ := st
    have e' : b = e ∨ b = it := by simpa using hb
    rcases e' with z | z
    · rw [z]; exact ⟨_, he, fun v q => nomatch q⟩
    · rw [z]; exact ⟨o, ho, fun v q => by rw [hd] at q; cases q⟩
  keep := fun i h h' st k => let ⟨⟨old, he⟩, hi, hne⟩ := st; ⟨⟨old, k e (by simp) _ he⟩, hi.at fun o q => k it (by simp) o q, hne⟩
  item := by
    intro X hP hw hK hc i pins s σ H E I hf st hg
    subst hP hw hK
    obtain ⟨⟨old, he⟩, hit, hne⟩ := st
    obtain ⟨xs, x, hq, hx⟩ := hg
    obtain ⟨its, rv, p, hz⟩ := I.tuple hq
    obtain ⟨u, hu, ru⟩ := rv.get hx
    have hel : e < s.heap.objs.size := Heap.lt_size he
    have hil : it < s.heap.objs.size := by obtain ⟨_, q, _⟩ := hit; exact Heap.lt_size q
    have hlt : i < its.toArray.size := by
      have := (List.getElem?_eq_some_iff.mp hu).1
      simpa using this
    have hef : e ∉ [it, a] := by simp; exact ⟨hne, hea⟩
    refine wpAny_pyNext_enum_itemD (Draws.tuple (A := X.A.in1) (I.ok.hd hc) it a hai its.toArray) he ⟨hit, p⟩ hlt hne hef fun x0 h' tk hP ho hst hT hsz hk => ?_
    have ex : x0 = u := by
      have hP' : its.toArray[i]? = some x0 := hP
      have : its[i]? = some x0 := by simpa using hP'
      rw [hu] at this
      exact (Option.some.inj this).symm
    subst ex
    obtain ⟨hit', _⟩ := hst
    refine ⟨_, rfl, wpAny_letOwnedTupleGo_enum (s := { s with heap := h', toks := tk + 1 }) ho fun h'' he' sb => ?_⟩
    have hT2 : h''.get? s.heap.objs.size = some { cls := .type "tuple", data := .seq #[.int i tk, x0] } := (sb.2 _ (Nat.ne_of_gt hel)).trans hT
    have new : ObjOk X.prog X.w (upd H s.heap.objs.size (.tup [.int (i : Nat), x])) h'' s.heap.objs.size (.tup [.int (i : Nat), x]) :=
      ⟨by show 2 ≤ sizeLine; decide, [.int i tk, x0], .cons ⟨_, rfl⟩ (.cons ru .nil), ⟨_, hT2, rfl, _, rfl⟩⟩
    have I1 : Inv X pins σ (upd H s.heap.objs.size (.tup [.int (i : Nat), x])) { s with heap := h'', toks := tk + 1 } :=
      I.turnedNew (ch := [e, it]) (fun b ob hb q => (sb.2 b (fun z => hb (by simp [z]))).trans (hk b ob (fun z => hb (by simp [z])) (fun z => hb (by simp [z])) q)) hf (Nat.le_refl _) new
    refine ⟨.ref s.heap.objs.size, _, I1, rfl, ⟨_, x, rfl, I.hok.fresh (Nat.le_refl _), rfl, fun ys hy => by rw [I.tuple_inj hy hq]; exact hx⟩, ⟨⟨x0, ?_⟩, hit'.at fun o q => (sb.2 it (Ne.symm hne)).trans q, hne⟩, fun b hb => ?_⟩
    · have e1 : ((i + 1 : Nat) : Int) = (i : Int) + 1 := by omega
      rw [e1]; exact he'
    · have hb' : b < s.heap.objs.size := by
        have e' : b = e ∨ b = it := by simpa using hb
        rcases e' with z | z
        · rw [z]; exact hel
        · rw [z]; exact hil
      rw [upd_ne (Nat.ne_of_lt hb')]
      exact (hf b hb).1
  done := by
    intro X hP hw hK hc i pins s σ H E I hf st hg
    subst hP hw hK
    obtain ⟨⟨old, he⟩, hit, hne⟩ := st
    obtain ⟨xs, hq, hx⟩ := hg
    obtain ⟨its, rv, p, hz⟩ := I.tuple hq
    obtain ⟨f0, f1, f2, f3, f4, f5⟩ := hf it (by simp)
    have hl := rv.length
    have hlt : its.toArray.size = i := by simp; omega
    refine wpAny_pyNext_enum_endD (Draws.tuple (A := X.A.in1) (I.ok.hd hc) it a hai its.toArray) he (by rw [hlt]; exact ⟨hit, p⟩) fun h' eb => ⟨rfl, I.turned (t' := s.toks) (fun b o hb q => eb b o hb q) f0 f1 f3 f4 f5⟩
  self := fun A i s Q E st h => let ⟨⟨_, he⟩, _⟩ := st; wpAny_pyIter_enum he h
def iEnumT (K : PySem.W.Frag) (ta : TA) : TI := fun σ H R => ta σ H fun vs H1 => ∃ a xs, vs = [.ref a] ∧ SqT K H1 a xs ∧ R (IteT K a) H1
theorem pi_enumT {X : Cx} {e : Expr} {ta : TA} {p pos tpos : Pos} {elts : List Expr} {kk : Nat} (hg : Gl X "enumerate") (hm : X.mg "enumerate" = none) (ha : PA X [e] ta) (hs : starEach [e] X.env = [(false, eval e X.env)] := by rfl) :
    PI X (.Tuple elts kk tpos) (.Call (.Name "enumerate" p) [e] [] pos) (iEnumT X.K ta) := by
  refine ⟨fun pins s σ H R I h => ?_⟩
  refine Call_ (ld_blt I hg hm boot_enumerate (PyProof.Rows.callWith_type1 (thn (ha.run pos pins s σ H _ I h) fun us s1 ⟨vs, H1, I1, r1, q1⟩ => ?_) hs rfl))
  obtain ⟨a, xs, ex, hq, q⟩ := q1
  subst ex
  cases r1 with
  | cons r rr =>
    cases rr
    cases r
    obtain ⟨its, rv, p', hz⟩ := I1.tuple hq
    obtain ⟨o1, ho1, _⟩ := id p'
    have hal : a < s1.heap.objs.size := Heap.lt_size ho1
    refine call_enum1 (begins_tuple a its.toArray) p' fun h' he hit hsz hk => wpAny_pyIter_enum he ?_
    have I2 : Inv X pins σ H1 { s1 with heap := h' } := I1.kept (t' := s1.toks) hk
    refine ⟨s1.heap.objs.size + 1, [s1.heap.objs.size + 1, s1.heap.objs.size], _, _, H1, rfl, I2, turn_enumT a (s1.heap.objs.size + 1) s1.heap.objs.size (Nat.ne_of_lt hal) (Nat.ne_of_gt (Nat.lt_succ_of_lt hal)), ⟨⟨.none, he⟩, ⟨_, hit, rfl, rfl⟩, Nat.succ_ne_self _⟩, fun b hb => ?_, q⟩
    have e' : b = s1.heap.objs.size + 1 ∨ b = s1.heap.objs.size := by simpa using hb
    have hle : s1.heap.objs.size ≤ b := by
      rcases e' with z | z
      · rw [z]; exact Nat.le_add_right _ _
      · rw [z]; exact Nat.le_refl _
    exact I1.fpOk hle (I1.hok.fresh hle)
/-- the pairs of enumerate -/
def enumD (ds : List PyData) : List PyData := ds.mapIdx fun i d => .tuple [.int (i : Nat), d]
theorem enumD_len (ds : List PyData) : (enumD ds).length = ds.length := by unfold enumD; simp
theorem enumD_get {ds : List PyData} {i : Nat} {d : PyData} (h : (enumD ds)[i]? = some d) : ∃ x, ds[i]? = some x ∧ d = .tuple [.int (i : Nat), x] := by
  unfold enumD at h
  rw [List.getElem?_mapIdx] at h
  cases e : ds[i]? with
  | none => rw [e] at h; simp at h
  | some x => rw [e] at h; exact ⟨x, rfl, (Option.some.inj h).symm⟩
section
variable {X : Cx} {δ : List Sl} {a : Expr} {pos pc pt : Pos} {elts : List Expr} {kk : Nat} {Ψ : List PyData → Prop}
theorem di_enumL (hm : X.mg "enumerate" = none) (h : DE X δ a fun d => ∃ ds, d = .list ds ∧ Ψ (enumD ds)) (hg : Gl X "enumerate" := by rfl)
    (hs0 : starEach (a :: []) X.env = (false, eval a X.env) :: starEach [] X.env := by rfl) (hs : starEach [a] X.env = [(false, eval a X.env)] := by rfl) : DI X δ (.Tuple elts kk pt) (.Call (.Name "enumerate" pc) [a] [] pos) Ψ := by
  intro C S σ H I R k
  refine tI_of (pi_enum hg hm (pa_cons pe_tE pa_nil hs0) hs) (h C S σ H I _ fun v H' d I' s h' q => ?_)
  obtain ⟨ds, rfl, q⟩ := q
  obtain ⟨a', xs, rfl, ha, hx⟩ := h'.lst_inv
  have sq : ∀ H2, Same (Kn S H') H2 → SqL X.K H2 a' xs := fun H2 g => .inl (.inl (g _ _ ha))
  refine ⟨a', xs, rfl, sq _ kn_le, k _ H' _ I' s ⟨fun i H2 g hi => ?_, fun H2 g => ⟨xs, sq H2 g, by rw [enumD_len, hx.length]; exact Nat.le_refl _⟩, fun i H2 y H3 g hi hy => ?_⟩ q⟩
  · rw [enumD_len] at hi
    have hi' : i < xs.length := by rw [hx.length]; exact hi
    exact ⟨xs, xs[i], sq H2 g, List.getElem?_eq_getElem hi'⟩
  · obtain ⟨T, v1, rfl, hT, rfl, f1⟩ := hy
    rw [enumD_len] at hi
    obtain ⟨u1, hu1, hd1⟩ := hx.get (List.getElem?_eq_getElem hi)
    have e1 := f1 xs (sq H2 g)
    rw [hu1] at e1
    cases e1
    refine ⟨same_upd hT, .tuple [.int (i : Nat), ds[i]], ?_, fun S' hl gs => ?_⟩
    · unfold enumD
      rw [List.getElem?_mapIdx, List.getElem?_eq_getElem hi] <;> rfl
    · have kp : Kn S' (upd H2 T (.tup [.int (i : Nat), v1])) T = some (.tup [.int (i : Nat), v1]) := kn_some.mpr ⟨fun z => hl T z hT, upd_same⟩
      have ks := gs.trans (kn_same (S := S') (same_upd (o := .tup [.int (i : Nat), v1]) hT))
      exact .tup kp (.cons (.int _) (.cons (hd1.mono ks) .nil))
theorem di_enumT (hm : X.mg "enumerate" = none) (h : DE X δ a fun d => ∃ ds, d = .tuple ds ∧ Ψ (enumD ds)) (hg : Gl X "enumerate" := by rfl)
    (hs0 : starEach (a :: []) X.env = (false, eval a X.env) :: starEach [] X.env := by rfl) (hs : starEach [a] X.env = [(false, eval a X.env)] := by rfl) : DI X δ (.Tuple elts kk pt) (.Call (.Name "enumerate" pc) [a] [] pos) Ψ := by
  intro C S σ H I R k
  refine tI_of (pi_enumT hg hm (pa_cons pe_tE pa_nil hs0) hs) (h C S σ H I _ fun v H' d I' s h' q => ?_)
  obtain ⟨ds, rfl, q⟩ := q
  obtain ⟨a', xs, rfl, ha, hx⟩ := h'.tup_inv
  have sq : ∀ H2, Same (Kn S H') H2 → SqT X.K H2 a' xs := fun H2 g => .inl (.inl (g _ _ ha))
  refine ⟨a', xs, rfl, sq _ kn_le, k _ H' _ I' s ⟨fun i H2 g hi => ?_, fun H2 g => ⟨xs, sq H2 g, by rw [enumD_len, hx.length]⟩, fun i H2 y H3 g hi hy => ?_⟩ q⟩
  · rw [enumD_len] at hi
    have hi' : i < xs.length := by rw [hx.length]; exact hi
    exact ⟨xs, xs[i], sq H2 g, List.getElem?_eq_getElem hi'⟩
  · obtain ⟨T, v1, rfl, hT, rfl, f1⟩ := hy
    rw [enumD_len] at hi
    obtain ⟨u1, hu1, hd1⟩ := hx.get (List.getElem?_eq_getElem hi)
    have e1 := f1 xs (sq H2 g)
    rw [hu1] at e1
    cases e1
    refine ⟨same_upd hT, .tuple [.int (i : Nat), ds[i]], ?_, fun S' hl gs => ?_⟩
    · unfold enumD
      rw [List.getElem?_mapIdx, List.getElem?_eq_getElem hi] <;> rfl
    · have kp : Kn S' (upd H2 T (.tup [.int (i : Nat), v1])) T = some (.tup [.int (i : Nat), v1]) := kn_some.mpr ⟨fun z => hl T z hT, upd_same⟩
      have ks := gs.trans (kn_same (S := S') (same_upd (o := .tup [.int (i : Nat), v1]) hT))
      exact .tup kp (.cons (.int _) (.cons (hd1.mono ks) .nil))
end
end DL

set_option Elab.async false
set_option linter.all false
set_option maxRecDepth 100000
set_option maxHeartbeats 1000000
namespace DL
open PySem PySem.Spec PyProof.Rows L2
section
variable {X : Cx} {δ : List Sl} {Φ : EndsD} {e a b c tg iter elt : Expr} {es : List Expr} {pos p : Pos} {x : Str} {st : Stmt} {sts body els : List Stmt}

/-! ### for -/
theorem for_core {g : TG} {C : Cc} {S : Addr → Prop} {σ : L2.St} {H1 : Hp} {D : Ends} {J : It} {its : List PyData} (I1 : Sm X.K C S σ H1 δ) (k : EOk X.K C (Kn S H1) D Φ) (w : WalkD (Kn S H1) J its) (Pv : Nat → List Sl → Prop) (h0 : Pv 0 δ)
    (hs : ∀ (i : Nat) d δ' S' σ' H2 y, its[i]? = some d → Pv i δ' → Sm X.K C S' σ' H2 δ' → Dd (Kn S' H2) y d → ∀ D', EOk X.K C (Kn S' H2) D' { nx := Pv (i + 1), rt := Φ.rt, bk := Φ.nx, ct := Pv (i + 1) } → g y σ' H2 fun σ3 H3 => tSs X body D' σ3 H3)
    (hd : ∀ δ', Pv its.length δ' → Φ.nx δ') :
    ∃ W : Nat → Nat → L2.St → Hp → Prop, (∃ m, W 0 m σ H1) ∧ ∀ i m σ H, W i m σ H →
      (J.stop i H ∧ D.nx σ H) ∨ (J.go i H ∧ ∃ N : L2.St → Hp → Prop, (∀ σ' H', N σ' H' → ∃ m', m' < m ∧ W (i + 1) m' σ' H') ∧ ∀ x H', J.yld i H x H' → g x σ H' fun σ2 H2 => tSs X body { D with nx := N, ct := N, bk := D.nx } σ2 H2) := by
  refine ⟨fun i m σ' H' => m = its.length - i ∧ i ≤ its.length ∧ ∃ S' δ', Pv i δ' ∧ Sm X.K C S' σ' H' δ' ∧ Same (Kn S H1) (Kn S' H'), ⟨its.length, by simp, Nat.zero_le _, S, δ, h0, I1, Same.refl _⟩, ?_⟩
  rintro i m σ' H' ⟨rfl, hi, S', δ', hP, I', s⟩
  have s' : Same (Kn S H1) H' := s.trans kn_le
  by_cases hlt : i < its.length
  · refine .inr ⟨w.goes i H' s' hlt, fun σ3 H3 => ∃ S' δ', Pv (i + 1) δ' ∧ Sm X.K C S' σ3 H3 δ' ∧ Same (Kn S H1) (Kn S' H3), fun σ3 H3 q => ⟨its.length - (i + 1), by omega, rfl, hlt, q⟩, fun y H3 hy => ?_⟩
    obtain ⟨s3, d, hd', hk⟩ := w.yields i H' y H3 s' hlt hy
    have I3 := I'.same s3
    have s4 : Same (Kn S H1) (Kn S' H3) := s.trans (kn_same s3)
    refine hs i d δ' S' σ' H3 y hd' hP I3 (hk S' I'.live s) _ ⟨fun S5 σ5 H5 δ5 p5 I5 s5 => ⟨S5, δ5, p5, I5, s4.trans s5⟩, k.rt, fun S5 σ5 H5 δ5 p5 I5 s5 => k.nx S5 σ5 H5 δ5 p5 I5 (s4.trans s5), fun S5 σ5 H5 δ5 p5 I5 s5 => ⟨S5, δ5, p5, I5, s4.trans s5⟩⟩
  · have e : i = its.length := by omega
    subst e
    exact .inl ⟨w.stops H' s', k.nx S' σ' H' δ' (hd δ' hP) I' s⟩
theorem ds_for (j : Nat) {y : Str} {py : Pos}
    (h : DI X δ (.Name y py) iter fun its => ∃ Pv : Nat → List Sl → Prop, Pv 0 δ ∧ (∀ (i : Nat) d δ', its[i]? = some d → Pv i δ' → DSs X (δ'.set j (.dt d)) body { nx := Pv (i + 1), rt := Φ.rt, bk := Φ.nx, ct := Pv (i + 1) }) ∧ ∀ δ', Pv its.length δ' → Φ.nx δ')
    (hN : X.N.Nodup) (hp : PassesOwn (model X.prog X.w) X.A X.env X.xe) (hc : X.calm = true := by rfl) (hi : X.N[j]? = some y := by rfl) (hx : Loc X.env.scope y := by first | exact Or.inl rfl | exact Or.inr rfl)
    (hf : X.fn y = true ∨ X.env.scope.names.lookup y = some .local := by first | exact .inl rfl | exact .inr rfl) (hs : ∀ x, foldedSetIterable iter X.env x = pure x := by intro _; rfl) : DS X δ (.For (.Name y py) iter body [] pos) Φ := by
  intro C S σ H D I k
  refine tS_of (ps_for hp hc pi_tI (pg_name hN hi hx hf) pss_tSs hs) (h C S σ H I _ fun J H1 its I1 s1 w q => ?_)
  obtain ⟨Pv, h0, hs, hd⟩ := q
  refine for_core I1 (k.mono (s1.kn I)) w Pv h0 (fun i d δ' S' σ' H2 z e1 e2 I2 hz D' k' => ?_) hd
  exact hs i d δ' e1 e2 C S' _ H2 D' (I2.setd hz) k'
theorem ds_for2 (j l : Nat) {y z : Str} {py pz pt : Pos} {kk : Nat}
    (h : DI X δ (.Tuple [.Name y py, .Name z pz] kk pt) iter fun its => ∃ Pv : Nat → List Sl → Prop, Pv 0 δ ∧ (∀ (i : Nat) d δ', its[i]? = some d → Pv i δ' → ∃ d1 d2, d = .tuple [d1, d2] ∧ DSs X ((δ'.set j (.dt d1)).set l (.dt d2)) body { nx := Pv (i + 1), rt := Φ.rt, bk := Φ.nx, ct := Pv (i + 1) }) ∧ ∀ δ', Pv its.length δ' → Φ.nx δ')
    (hN : X.N.Nodup) (hp : PassesOwn (model X.prog X.w) X.A X.env X.xe) (hc : X.calm = true := by rfl) (hi : X.N[j]? = some y := by rfl) (hl : X.N[l]? = some z := by rfl)
    (hx : Loc X.env.scope y := by first | exact Or.inl rfl | exact Or.inr rfl) (hz : Loc X.env.scope z := by first | exact Or.inl rfl | exact Or.inr rfl)
    (hf : X.fn y = true ∨ X.env.scope.names.lookup y = some .local := by first | exact .inl rfl | exact .inr rfl) (hg : X.fn z = true ∨ X.env.scope.names.lookup z = some .local := by first | exact .inl rfl | exact .inr rfl)
    (hn : (assignEach [.Name y py, .Name z pz] X.env).length = 2 := by rfl) (hst : (assignEach [.Name y py, .Name z pz] X.env).findIdx? (·.1) = none := by rfl)
    (hs : ∀ x, foldedSetIterable iter X.env x = pure x := by intro _; rfl) : DS X δ (.For (.Tuple [.Name y py, .Name z pz] kk pt) iter body [] pos) Φ := by
  intro C S σ H D I k
  refine tS_of (ps_for hp hc pi_tI (pg_tup hc (pgs_cons (pg_name hN hi hx hf) (pgs_cons (pg_name hN hl hz hg) pgs_nil)) hn hst) pss_tSs hs) (h C S σ H I _ fun J H1 its I1 s1 w q => ?_)
  obtain ⟨Pv, h0, hs, hd⟩ := q
  refine for_core I1 (k.mono (s1.kn I)) w Pv h0 (fun i d δ' S' σ' H2 v e1 e2 I2 hz D' k' => ?_) hd
  obtain ⟨d1, d2, rfl, q⟩ := hs i d δ' e1 e2
  obtain ⟨a, xs, rfl, ha, hxs⟩ := hz.tup_inv
  cases hxs with
  | cons g1 r =>
    cases r with
    | cons g2 r =>
      cases r
      exact ⟨a, _, rfl, .inl (.inl (kn_le _ _ ha)), rfl, _, _, rfl, _, _, rfl, rfl, q C S' _ H2 D' ((I2.setd g1).setd g2) k'⟩

/-! ### comprehensions -/
/-- the context of a comprehension's block -/
abbrev blkX (X : Cx) (scope : Scope) (s : Shared) (H : Hp) (Cl : Addr) (cl : List (Str × Addr)) (fp : List Addr) : Cx := X.blk s H scope (compEnvC scope cl Cl X.env) fp
theorem wipe_set {σ : L2.St} {v : Option V} : ∀ (vs : List Nat) (j : Nat), j ∈ vs → L2.wipe ((L2.wipe σ vs).set j v) vs = L2.wipe σ vs := by
  have key : ∀ (vs : List Nat) (τ τ' : L2.St), τ.length = τ'.length → (∀ i, i ∉ vs → τ[i]? = τ'[i]?) → L2.wipe τ vs = L2.wipe τ' vs := by
    intro vs τ τ' hl h
    apply List.ext_getElem?
    intro i
    by_cases hi : i ∈ vs
    · have none_at : ∀ (us : List Nat) (ρ : L2.St), i ∈ us → (L2.wipe ρ us)[i]? = if i < ρ.length then some none else none := by
        intro us
        induction us with
        | nil => intro ρ h; cases h
        | cons u us ih =>
          intro ρ h
          show ((L2.wipe ρ us).set u none)[i]? = _
          by_cases e : u = i
          · subst e
            rw [List.getElem?_set]
            simp [L2.wipe_length]
          · rw [List.getElem?_set_ne e]
            rcases List.mem_cons.mp h with z | z
            · exact absurd z.symm e
            · exact ih ρ z
      rw [none_at vs τ hi, none_at vs τ' hi, hl]
    · rw [L2.wipe_out hi, L2.wipe_out hi]
      exact h i hi
  intro vs j hj
  have hww : L2.wipe σ vs = L2.wipe (L2.wipe σ vs) vs := by
    apply key
    · rw [L2.wipe_length]
    · intro i hi; rw [L2.wipe_out hi]
  rw [hww]
  conv => rhs; rw [← hww]
  rw [← hww]
  apply Eq.trans (key vs ((L2.wipe σ vs).set j v) (L2.wipe σ vs) (by rw [List.length_set]) (fun i hi => by
    rw [List.getElem?_set_ne (fun e : j = i => hi (by rw [← e]; exact hj))]))
  exact hww.symm
theorem wipeD_dk {δ : List Sl} : ∀ (vs : List Nat) (i : Nat), (wipeD δ vs)[i]? = some .dk → δ[i]? = some .dk
  | [], _, h => h
  | v :: vs, i, h => by
    have h' : ((wipeD δ vs).set v .no)[i]? = some .dk := h
    by_cases e : v = i
    · subst e
      by_cases hl : v < (wipeD δ vs).length
      · rw [List.getElem?_set_self hl] at h'; cases h'
      · rw [List.getElem?_eq_none (by rw [List.length_set]; omega)] at h'; cases h'
    · rw [List.getElem?_set_ne e] at h'
      exact wipeD_dk vs i h'
/-- a turn's tests (one or none) and element -/
def DLC (X : Cx) (scope : Scope) (δ : List Sl) (ifs : List Expr) (elt : Expr) (yes : PyData → Prop) (no : Prop) : Prop := match ifs with
  | [] => ∀ s H0 Cl cl fp, DE (blkX X scope s H0 Cl cl fp) δ elt yes
  | [c] => ∀ s H0 Cl cl fp, DT (blkX X scope s H0 Cl cl fp) δ c fun b => if b = true then ∀ s H0 Cl cl fp, DE (blkX X scope s H0 Cl cl fp) δ elt yes else no
  | _ => False
def tIfs (X : Cx) (scope : Scope) (ifs : List Expr) : TT := fun σ H Q => match ifs with
  | [] => Q true H
  | [c] => ∀ s H0 Cl cl fp, tT (blkX X scope s H0 Cl cl fp) c σ H Q
  | _ => False
theorem pts_tIfs {scope : Scope} {ifs : List Expr} (s : Shared) (H0 : Hp) (Cl : Addr) (cl : List (Str × Addr)) (fp : List Addr) : PTs (blkX X scope s H0 Cl cl fp) ifs (tIfs X scope ifs) := by
  match ifs with
  | [] => exact ⟨fun pins s' σ H Q I hw => pts_nil.run pins s' σ H Q I hw⟩
  | [c] => exact ⟨fun pins s' σ H Q I hw => (pts_one (pt_tT (X := blkX X scope s H0 Cl cl fp) (e := c))).run pins s' σ H Q I (hw s H0 Cl cl fp)⟩
  | _ :: _ :: _ => exact ⟨fun pins s' σ H Q I hw => False.elim hw⟩
def tElt (X : Cx) (scope : Scope) (elt : Expr) : TE := fun σ H Q => ∀ s H0 Cl cl fp, tE (blkX X scope s H0 Cl cl fp) elt σ H Q
theorem pe_tElt {scope : Scope} {elt : Expr} (s : Shared) (H0 : Hp) (Cl : Addr) (cl : List (Str × Addr)) (fp : List Addr) : PE (blkX X scope s H0 Cl cl fp) elt (tElt X scope elt) :=
  ⟨fun pins s' σ H Q I hw => (pe_tE (X := blkX X scope s H0 Cl cl fp) (e := elt)).run pins s' σ H Q I (hw s H0 Cl cl fp)⟩
/-- the loop of a comprehension; P says what is asked of one turn -/
theorem lc_coreD {scope : Scope} {ifs : List Expr} {g : TG} {vs : List Nat} {C : Cc} {S : Addr → Prop} {σ : L2.St} {H1 : Hp} {J : It} {its : List PyData} {Q : VK} {Ψ : List PyData → Prop}
    (I1 : Sm X.K C S σ H1 δ) (w : WalkD (Kn S H1) J its) (hl : its.length ≤ 1000000) (Pv : Nat → List PyData → Prop) (h0 : Pv 0 [])
    (stp : ∀ (i : Nat) d acc, its[i]? = some d → Pv i acc → ∃ δ2, (∀ (S' : Addr → Prop) H2 y, Sm X.K C S' (L2.wipe σ vs) H2 (wipeD δ vs) → Dd (Kn S' H2) y d → ∀ R : L2.St → Hp → Prop, (∀ σ2, Sm X.K C S' σ2 H2 δ2 → (∀ (j : Nat) (q : Addr), σ2[j]? = some (some (V.ref q)) → δ2[j]? = some Sl.dk → σ[j]? = some (some (V.ref q)) ∧ δ[j]? = some Sl.dk) → L2.wipe σ2 vs = L2.wipe σ vs → R σ2 H2) → g y (L2.wipe σ vs) H2 R) ∧
      DLC X scope δ2 ifs elt (fun y => Pv (i + 1) (acc ++ [y])) (Pv (i + 1) acc))
    (hd : ∀ acc, Pv its.length acc → Ψ acc)
    (k : ∀ p H' xs ds, Sm X.K C (add S p) σ H' δ → Fd σ δ H1 H' → Same (Kn S H1) (Kn (add S p) H') → ¬ S p → C.H0 p = none → ¬ C.S0 p → H' p = some (.lst xs) → Dds (Kn (add S p) H') xs ds → Ψ ds → Q (.ref p) H') (D : Addr) (hD : H1 D = none) :
    ∃ W : Nat → Nat → Hp → Prop, (∃ m, W 0 m (upd H1 D (.lst []))) ∧ ∀ i m H, W i m H →
      (J.stop i H ∧ Q (.ref D) H) ∨ (J.go i H ∧ ∃ Nx : Hp → Prop, (∀ H', Nx H' → ∃ m', m' < m ∧ W (i + 1) m' H') ∧ ∀ x H', J.yld i H x H' → g x (L2.wipe σ vs) H' fun σ2 H2 => L2.wipe σ2 vs = L2.wipe σ vs ∧ tIfs X scope ifs σ2 H2 fun b H3 =>
        if b = true then tElt X scope elt σ2 H3 fun y H4 => ∃ acc, H4 D = some (.lst acc) ∧ acc.length < sizeLine ∧ Nx (upd H4 D (.lst (acc ++ [y]))) else Nx H3) := by
  obtain ⟨f1, f2, f3, f4⟩ := I1.fresh hD
  let G := Kn S H1
  let W1 : Nat → Hp → Prop := fun i H => ∃ acc dac, H D = some (.lst acc) ∧ Dds (Kn (add S D) H) acc dac ∧ dac.length ≤ i ∧ Pv i dac ∧ Sm X.K C (add S D) σ H δ ∧ Same G (Kn (add S D) H) ∧ Fd σ δ H1 H
  refine ⟨fun i m H => m = its.length - i ∧ i ≤ its.length ∧ W1 i H, ⟨its.length, by simp, Nat.zero_le _, [], [], upd_same, .nil, Nat.le_refl _, h0, I1.hid hD, kn_add hD, Fd.of (same_upd hD)⟩, ?_⟩
  rintro i m H ⟨rfl, hi, acc, dac, hacc, hda, hlen, hP, IH, sG, fd⟩
  have sH : Same (Kn S H1) H := sG.trans kn_le
  by_cases hlt : i < its.length
  · refine .inr ⟨w.goes i H sH hlt, W1 (i + 1), fun H' q => ⟨its.length - (i + 1), by omega, rfl, hlt, q⟩, fun y H' hy => ?_⟩
    obtain ⟨s3, d, hd', hk⟩ := w.yields i H y H' sH hlt hy
    have IH' := IH.same s3
    obtain ⟨δ2, hg, hb⟩ := stp i d dac hd' hP
    refine hg (add S D) H' y (IH'.wipe vs) (hk _ IH.live sG) _ fun σ2 I2 hdk hw => ⟨hw, ?_⟩
    have hDdk : ∀ (τ : L2.St) (Z : Hp), τ = σ2 → ∀ j : Nat, τ[j]? = some (some (V.ref D)) → δ2[j]? = some Sl.dk → False := fun τ Z e j h1 h2 => by
      subst e
      obtain ⟨q1, q2⟩ := hdk j D h1 h2
      have := I1.noslot f3 j _ q1 q2
      cases this
    have back : ∀ Z Z', Fd σ2 δ2 Z Z' → Fd σ δ Z Z' := fun Z Z' f b o e h => f b o e fun j h1 h2 => by
      obtain ⟨q1, q2⟩ := hdk j b h1 h2
      exact h j q1 q2
    -- the test
    have main : ∀ b H3, Sm X.K C (add S D) σ2 H3 δ2 → Fd σ2 δ2 H' H3 → (if b = true then ∀ s H0 Cl cl fp, DE (blkX X scope s H0 Cl cl fp) δ2 elt fun y => Pv (i + 1) (dac ++ [y]) else Pv (i + 1) dac) →
        (if b = true then tElt X scope elt σ2 H3 fun y H4 => ∃ acc, H4 D = some (.lst acc) ∧ acc.length < sizeLine ∧ W1 (i + 1) (upd H4 D (.lst (acc ++ [y]))) else W1 (i + 1) H3) := by
      intro b H3 I3 f3' q
      have sm : ∀ H4, Sm X.K C (add S D) σ2 H4 δ2 → Fd σ2 δ2 H' H4 → Sm X.K C (add S D) σ H4 δ := fun H4 I4 f4' => by
        have ff := back _ _ f4'
        have ks := ff.kn IH'
        refine ⟨IH'.len, fun j v s h1 h2 => ?_, IH'.apart, I4.live, IH'.sub, I4.keep, I4.keepM, IH'.mS⟩
        have q := IH'.sl j v s h1 h2
        cases s with
        | no => trivial
        | dt d => obtain ⟨z, e1, e2⟩ := q; exact ⟨z, e1, e2.mono ks⟩
        | ow ds =>
          obtain ⟨r, zs, e1, e2, e3, e4, e5, e6⟩ := q
          refine ⟨r, zs, e1, e2, e3, e4, ff r _ e5 fun l l1 l2 => ?_, e6.mono ks⟩
          subst e1
          have := IH'.apart j l r _ _ h1 l1 h2 l2 rfl rfl
          subst this
          rw [h2] at l2; cases l2
        | dk =>
          obtain ⟨r, ns, e1, e2, e3, e4⟩ := q
          -- the deck: told by the block's own slots or unchanged
          by_cases hx : ∃ l : Nat, σ2[l]? = some (some (.ref r)) ∧ δ2[l]? = some .dk
          · obtain ⟨l, l1, l2⟩ := hx
            obtain ⟨r', ns', g1, g2, g3, g4⟩ := I4.sl l _ _ l1 l2
            cases g1
            exact ⟨r, ns', e1, e2, e3, g4⟩
          · exact ⟨r, ns, e1, e2, e3, f4' r _ e4 fun l l1 l2 => hx ⟨l, l1, l2⟩⟩
        | sq ns => obtain ⟨r, e1, e2⟩ := q; exact ⟨r, e1, same_sq ks e2⟩
      have atD : ∀ H4, Fd σ2 δ2 H' H4 → H4 D = some (.lst acc) := fun H4 f => f D _ (s3 D _ hacc) (hDdk σ2 H4 rfl)
      cases b with
      | false =>
        show W1 (i + 1) H3
        have ks := (f3'.kn I2)
        exact ⟨acc, dac, atD H3 f3', hda.mono ((kn_same s3).trans ks), by omega, q, sm H3 I3 f3', (sG.trans (kn_same s3)).trans ks, (fd.trans (Fd.of s3)).trans (back _ _ f3')⟩
      | true =>
        show tElt X scope elt σ2 H3 _
        intro s H0 Cl cl fp
        refine q s H0 Cl cl fp C (add S D) σ2 H3 I3 _ fun v H4 d4 I4 f4' h4 q4 => ?_
        have ff4 := f3'.trans f4'
        have ks := ff4.kn I2
        have eD := atD H4 ff4
        refine ⟨acc, eD, by rw [hda.length]; exact sizeLt (by omega), ?_⟩
        have I5 := sm H4 I4 ff4
        have km : Same (Kn (add S D) H4) (Kn (add S D) (upd H4 D (.lst (acc ++ [v])))) := kn_mut (.inl rfl)
        refine ⟨acc ++ [v], dac ++ [d4], upd_same, ((hda.mono ((kn_same s3).trans ks)).append (.one h4)).mono km, by rw [List.length_append]; simp; omega, q4, I5.hmut (.inl rfl) f1 f2 (fun j u h1 h2 => I1.noslot f3 j u h1 h2), ((sG.trans (kn_same s3)).trans ks).trans km, ?_⟩
        intro b o e h
        have hb : b ≠ D := ne_of_none e hD
        rw [upd_ne hb]
        exact ((fd.trans (Fd.of s3)).trans (back _ _ ff4)) b o e h
    unfold tIfs
    match ifs, hb with
    | [], hb => exact main true H' I2 (Fd.refl _) hb
    | [c0], hb =>
      intro s H0 Cl cl fp
      exact (hb s H0 Cl cl fp) C (add S D) σ2 H' I2 _ fun b H3 I3 f3' q => main b H3 I3 f3' q
    | _ :: _ :: _, hb => exact False.elim hb
  · have e : i = its.length := by omega
    subst e
    refine .inl ⟨w.stops H sH, k D H acc dac IH fd sG f3 f1 f4 hacc hda (hd dac hP)⟩
end
end DL

set_option Elab.async false
set_option linter.all false
set_option maxRecDepth 100000
set_option maxHeartbeats 1000000
namespace DL
open PySem PySem.Spec PyProof.Rows L2
section
variable {X : Cx} {δ : List Sl} {Φ : EndsD} {e a b c iter elt : Expr} {es : List Expr} {pos p : Pos} {x : Str} {st : Stmt} {sts body els : List Stmt}

/-! ### comprehensions, the rules -/
theorem wipeD_len (δ : List Sl) : ∀ vs, (wipeD δ vs).length = δ.length
  | [] => rfl
  | v :: vs => by
    show ((wipeD δ vs).set v .no).length = δ.length
    rw [List.length_set, wipeD_len δ vs]
theorem lc_dk1 {σ : L2.St} {vs : List Nat} {j : Nat} {v : V} {d : PyData} {l : Nat} {q : Addr} (h1 : ((L2.wipe σ vs).set j (some v))[l]? = some (some (V.ref q))) (h2 : ((wipeD δ vs).set j (.dt d))[l]? = some Sl.dk) : σ[l]? = some (some (V.ref q)) ∧ δ[l]? = some Sl.dk := by
  by_cases e : j = l
  · subst e
    by_cases hl : j < (wipeD δ vs).length
    · rw [List.getElem?_set_self hl] at h2; cases h2
    · rw [List.getElem?_eq_none (by rw [List.length_set]; omega)] at h2; cases h2
  · rw [List.getElem?_set_ne e] at h1 h2
    exact ⟨(L2.wipe_some h1).1, wipeD_dk vs l h2⟩
theorem lc_dk2 {σ : L2.St} {vs : List Nat} {j m : Nat} {v w : V} {d d' : PyData} {l : Nat} {q : Addr} (h1 : (((L2.wipe σ vs).set j (some v)).set m (some w))[l]? = some (some (V.ref q))) (h2 : (((wipeD δ vs).set j (.dt d)).set m (.dt d'))[l]? = some Sl.dk) : σ[l]? = some (some (V.ref q)) ∧ δ[l]? = some Sl.dk := by
  by_cases e : m = l
  · subst e
    by_cases hl : m < ((wipeD δ vs).set j (.dt d)).length
    · rw [List.getElem?_set_self hl] at h2; cases h2
    · rw [List.getElem?_eq_none (by rw [List.length_set]; omega)] at h2; cases h2
  · rw [List.getElem?_set_ne e] at h1 h2
    exact lc_dk1 h1 h2
theorem wipe_len' (σ : L2.St) (vs : List Nat) : (L2.wipe σ vs).length = σ.length := L2.wipe_length σ vs
theorem wipe_idem {σ : L2.St} (vs : List Nat) (h : vs ≠ []) : L2.wipe (L2.wipe σ vs) vs = L2.wipe σ vs := by
  cases vs with
  | nil => exact absurd rfl h
  | cons v vs =>
    have hv : (L2.wipe σ (v :: vs)).set v none = L2.wipe σ (v :: vs) := by
      show ((L2.wipe σ vs).set v none).set v none = (L2.wipe σ vs).set v none
      rw [List.set_set]
    have q := wipe_set (σ := σ) (v := none) (v :: vs) v List.mem_cons_self
    rw [hv] at q
    exact q
theorem wipe_set2 {σ : L2.St} {u w : Option V} (vs : List Nat) (j m : Nat) (hj : j ∈ vs) (hm : m ∈ vs) : L2.wipe (((L2.wipe σ vs).set j u).set m w) vs = L2.wipe σ vs := by
  apply List.ext_getElem?
  intro i
  have none_at : ∀ (us : List Nat) (ρ : L2.St), i ∈ us → (L2.wipe ρ us)[i]? = if i < ρ.length then some none else none := by
    intro us
    induction us with
    | nil => intro ρ h; cases h
    | cons u us ih =>
      intro ρ h
      show ((L2.wipe ρ us).set u none)[i]? = _
      by_cases e : u = i
      · subst e
        rw [List.getElem?_set]
        simp [L2.wipe_length]
      · rw [List.getElem?_set_ne e]
        rcases List.mem_cons.mp h with z | z
        · exact absurd z.symm e
        · exact ih ρ z
  by_cases hi : i ∈ vs
  · rw [none_at vs _ hi, none_at vs σ hi, List.length_set, List.length_set, L2.wipe_length]
  · rw [L2.wipe_out hi, List.getElem?_set_ne (fun e : m = i => hi (by rw [← e]; exact hm)), List.getElem?_set_ne (fun e : j = i => hi (by rw [← e]; exact hj))]
/-- what a comprehension with a name as target asks -/
def LcAsk (X : Cx) (δ : List Sl) (scope : Scope) (j : Nat) (ifs : List Expr) (elt : Expr) (Ψ : List PyData → Prop) (its : List PyData) : Prop :=
  its.length ≤ 1000000 ∧ ∃ Pv : Nat → List PyData → Prop, Pv 0 [] ∧ (∀ (i : Nat) d acc, its[i]? = some d → Pv i acc → DLC X scope ((wipeD δ [j]).set j (.dt d)) ifs elt (fun y => Pv (i + 1) (acc ++ [y])) (Pv (i + 1) acc)) ∧ ∀ acc, Pv its.length acc → Ψ acc
/-- .. with a pair of names -/
def LcAsk2 (X : Cx) (δ : List Sl) (scope : Scope) (j l : Nat) (ifs : List Expr) (elt : Expr) (Ψ : List PyData → Prop) (its : List PyData) : Prop :=
  its.length ≤ 1000000 ∧ ∃ Pv : Nat → List PyData → Prop, Pv 0 [] ∧ (∀ (i : Nat) d acc, its[i]? = some d → Pv i acc → ∃ d1 d2, d = .tuple [d1, d2] ∧ DLC X scope (((wipeD δ [j, l]).set j (.dt d1)).set l (.dt d2)) ifs elt (fun y => Pv (i + 1) (acc ++ [y])) (Pv (i + 1) acc)) ∧ ∀ acc, Pv its.length acc → Ψ acc
theorem lc_read1 {tg : Expr} {scope : Scope} {ifs : List Expr} {j : Nat} {Ψ : List PyData → Prop} (h : DI X δ tg iter (LcAsk X δ scope j ifs elt Ψ)) {C : Cc} {S : Addr → Prop} {σ : L2.St} {H : Hp} (I : Sm X.K C S σ H δ) {Q : VK}
    (k : ∀ p H' xs ds, Sm X.K C (add S p) σ H' δ → Fd σ δ H H' → Same (Kn S H) (Kn (add S p) H') → ¬ S p → C.H0 p = none → ¬ C.S0 p → H' p = some (.lst xs) → Dds (Kn (add S p) H') xs ds → Ψ ds → Q (.ref p) H') :
    tLc (tI X tg iter) (gName j) (tIfs X scope ifs) (tElt X scope elt) [j] σ H Q := by
  refine h C S σ H I _ fun J H1 its I1 s1 w q D hD => ?_
  obtain ⟨hl, Pv, h0, hs, hd⟩ := q
  refine lc_coreD I1 w hl Pv h0 (fun i d acc e1 e2 => ⟨_, fun S' H2 y I2 hy R hR => ?_, hs i d acc e1 e2⟩) hd (fun p H' xs ds I' f s => k p H' xs ds I' (s1.trans f) ((s1.kn I).trans s)) D hD
  exact hR _ (I2.setd hy) (fun l q h1 h2 => lc_dk1 h1 h2) (wipe_set [j] j List.mem_cons_self)
theorem lc_read2 {tg : Expr} {scope : Scope} {ifs : List Expr} {j l : Nat} {Ψ : List PyData → Prop} (h : DI X δ tg iter (LcAsk2 X δ scope j l ifs elt Ψ)) {C : Cc} {S : Addr → Prop} {σ : L2.St} {H : Hp} (I : Sm X.K C S σ H δ) {Q : VK}
    (k : ∀ p H' xs ds, Sm X.K C (add S p) σ H' δ → Fd σ δ H H' → Same (Kn S H) (Kn (add S p) H') → ¬ S p → C.H0 p = none → ¬ C.S0 p → H' p = some (.lst xs) → Dds (Kn (add S p) H') xs ds → Ψ ds → Q (.ref p) H') :
    tLc (tI X tg iter) (gTup X.K 2 (gCons (gName j) (gCons (gName l) gNil))) (tIfs X scope ifs) (tElt X scope elt) [j, l] σ H Q := by
  refine h C S σ H I _ fun J H1 its I1 s1 w q D hD => ?_
  obtain ⟨hl, Pv, h0, hs, hd⟩ := q
  refine lc_coreD I1 w hl Pv h0 (fun i d acc e1 e2 => ?_) hd (fun p H' xs ds I' f s => k p H' xs ds I' (s1.trans f) ((s1.kn I).trans s)) D hD
  obtain ⟨d1, d2, rfl, q⟩ := hs i d acc e1 e2
  refine ⟨_, fun S' H2 y I2 hy R hR => ?_, q⟩
  obtain ⟨a, xs, rfl, ha, hxs⟩ := hy.tup_inv
  cases hxs with
  | cons g1 r =>
    cases r with
    | cons g2 r =>
      cases r
      exact ⟨a, _, rfl, .inl (.inl (kn_le _ _ ha)), rfl, _, _, rfl, _, _, rfl, rfl, hR _ ((I2.setd g1).setd g2) (fun m q h1 h2 => lc_dk2 h1 h2) (wipe_set2 [j, l] j l List.mem_cons_self (List.mem_cons_of_mem _ List.mem_cons_self))⟩
theorem dl_lc (j : Nat) {y : Str} {py : Pos} {scope : Scope} {ifs : List Expr} {Ψ : List PyData → Prop} (ok : BlkOk X.N X.env.scope scope [(y, j)]) (hN : X.N.Nodup) (h : DI X δ (.Name y py) iter (LcAsk X δ scope j ifs elt Ψ))
    (hi : X.N[j]? = some y := by rfl) (hc : X.calm = true := by rfl) (hx : ∀ cl Cl, Loc (compEnvC scope cl Cl X.env).scope y := by intro _ _; first | exact Or.inl rfl | exact Or.inr rfl)
    (hf : ∀ s H Cl cl fp, (blkX X scope s H Cl cl fp).fn y = true ∨ (blkX X scope s H Cl cl fp).env.scope.names.lookup y = some .local := by intro _ _ _ _ _; first | exact .inl rfl | exact .inr rfl)
    (hs : ∀ x, foldedSetIterable iter X.env x = pure x := by intro _; rfl) : DL_ X δ (.ListComp elt [⟨.Name y py, iter, ifs, 0⟩] scope pos) Ψ := by
  intro C S σ H I Q k
  exact tE_of (pe_lc hc hN pi_tI ok (fun s H Cl cl fp => pg_name (X := blkX X scope s H Cl cl fp) hN hi (hx cl Cl) (hf s H Cl cl fp)) pts_tIfs pe_tElt hs) (lc_read1 h I k)
theorem pg_two {j l : Nat} {y z : Str} {py pz pt : Pos} {kk : Nat} {scope : Scope} {s : Shared} {H : Hp} {Cl : Addr} {cl : List (Str × Addr)} {fp : List Addr} (hc : X.calm = true) (hN : X.N.Nodup) (hi : X.N[j]? = some y) (hl : X.N[l]? = some z) (hx : Loc (compEnvC scope cl Cl X.env).scope y) (hz : Loc (compEnvC scope cl Cl X.env).scope z)
    (hf : (blkX X scope s H Cl cl fp).fn y = true ∨ (blkX X scope s H Cl cl fp).env.scope.names.lookup y = some .local) (hg : (blkX X scope s H Cl cl fp).fn z = true ∨ (blkX X scope s H Cl cl fp).env.scope.names.lookup z = some .local)
    (hn : (assignEach [.Name y py, .Name z pz] (blkX X scope s H Cl cl fp).env).length = 2) (hst : (assignEach [.Name y py, .Name z pz] (blkX X scope s H Cl cl fp).env).findIdx? (·.1) = none) :
    PG (blkX X scope s H Cl cl fp) (.Tuple [.Name y py, .Name z pz] kk pt) (gTup X.K 2 (gCons (gName j) (gCons (gName l) gNil))) :=
  pg_tup (X := blkX X scope s H Cl cl fp) hc (pgs_cons (pg_name (X := blkX X scope s H Cl cl fp) hN hi hx hf) (pgs_cons (pg_name (X := blkX X scope s H Cl cl fp) hN hl hz hg) pgs_nil)) hn hst
theorem dl_lc2 (j l : Nat) {y z : Str} {py pz pt : Pos} {kk : Nat} {scope : Scope} {ifs : List Expr} {Ψ : List PyData → Prop} (ok : BlkOk X.N X.env.scope scope [(y, j), (z, l)]) (hN : X.N.Nodup) (h : DI X δ (.Tuple [.Name y py, .Name z pz] kk pt) iter (LcAsk2 X δ scope j l ifs elt Ψ))
    (hi : X.N[j]? = some y := by rfl) (hl : X.N[l]? = some z := by rfl) (hc : X.calm = true := by rfl) (hx : ∀ cl Cl, Loc (compEnvC scope cl Cl X.env).scope y := by intro _ _; first | exact Or.inl rfl | exact Or.inr rfl)
    (hz : ∀ cl Cl, Loc (compEnvC scope cl Cl X.env).scope z := by intro _ _; first | exact Or.inl rfl | exact Or.inr rfl)
    (hf : ∀ s H Cl cl fp, (blkX X scope s H Cl cl fp).fn y = true ∨ (blkX X scope s H Cl cl fp).env.scope.names.lookup y = some .local := by intro _ _ _ _ _; first | exact .inl rfl | exact .inr rfl)
    (hg : ∀ s H Cl cl fp, (blkX X scope s H Cl cl fp).fn z = true ∨ (blkX X scope s H Cl cl fp).env.scope.names.lookup z = some .local := by intro _ _ _ _ _; first | exact .inl rfl | exact .inr rfl)
    (hn : ∀ s H Cl cl fp, (assignEach [.Name y py, .Name z pz] (blkX X scope s H Cl cl fp).env).length = 2 := by intro _ _ _ _ _; rfl) (hst : ∀ s H Cl cl fp, (assignEach [.Name y py, .Name z pz] (blkX X scope s H Cl cl fp).env).findIdx? (·.1) = none := by intro _ _ _ _ _; rfl)
    (hs : ∀ x, foldedSetIterable iter X.env x = pure x := by intro _; rfl) : DL_ X δ (.ListComp elt [⟨.Tuple [.Name y py, .Name z pz] kk pt, iter, ifs, 0⟩] scope pos) Ψ := by
  intro C S σ H I Q k
  exact tE_of (pe_lc (wi := tI X _ _) (tt := tIfs X scope ifs) (te := tElt X scope elt) (g := gTup X.K 2 (gCons (gName j) (gCons (gName l) gNil))) hc hN pi_tI ok (fun s H Cl cl fp => pg_two hc hN hi hl (hx cl Cl) (hz cl Cl) (hf s H Cl cl fp) (hg s H Cl cl fp) (hn s H Cl cl fp) (hst s H Cl cl fp)) pts_tIfs pe_tElt hs) (lc_read2 h I k)
/-- x = [..], the list the slot's own -/
theorem ds_lc (i j : Nat) {u y : Str} {pu py spos : Pos} {scope : Scope} {ifs : List Expr} (ok : BlkOk X.N X.env.scope scope [(y, j)]) (hN : X.N.Nodup) (h : DI X δ (.Name y py) iter (LcAsk X δ scope j ifs elt fun ds => Φ.nx (δ.set i (.ow ds))))
    (hsw : swapsWith (.ListComp elt [⟨.Name y py, iter, ifs, 0⟩] scope pos) (some (.Name u pu)) spos.line X.env = pure true)
    (hu : X.N[i]? = some u := by rfl) (hul : X.env.scope.names.lookup u = some .local := by rfl)
    (hi : X.N[j]? = some y := by rfl) (hc : X.calm = true := by rfl) (hx : ∀ cl Cl, Loc (compEnvC scope cl Cl X.env).scope y := by intro _ _; first | exact Or.inl rfl | exact Or.inr rfl)
    (hf : ∀ s H Cl cl fp, (blkX X scope s H Cl cl fp).fn y = true ∨ (blkX X scope s H Cl cl fp).env.scope.names.lookup y = some .local := by intro _ _ _ _ _; first | exact .inl rfl | exact .inr rfl)
    (hs : ∀ x, foldedSetIterable iter X.env x = pure x := by intro _; rfl) : DS X δ (.Assign [.Name u pu] (.ListComp elt [⟨.Name y py, iter, ifs, 0⟩] scope pos) spos) Φ := by
  intro C S σ H D I k
  refine tS_of (ps_setLc hc hN hu hul hsw pi_tI ok (fun s H Cl cl fp => pg_name (X := blkX X scope s H Cl cl fp) hN hi (hx cl Cl) (hf s H Cl cl fp)) pts_tIfs pe_tElt hs) ?_
  exact lc_read1 h I fun p H' xs ds I' f s h3 h1 h4 hp hd q => own_end i I k I' s h3 h1 h4 hp hd q
theorem ds_lc2 (i j l : Nat) {u y z : Str} {pu py pz pt spos : Pos} {kk : Nat} {scope : Scope} {ifs : List Expr} (ok : BlkOk X.N X.env.scope scope [(y, j), (z, l)]) (hN : X.N.Nodup) (h : DI X δ (.Tuple [.Name y py, .Name z pz] kk pt) iter (LcAsk2 X δ scope j l ifs elt fun ds => Φ.nx (δ.set i (.ow ds))))
    (hsw : swapsWith (.ListComp elt [⟨.Tuple [.Name y py, .Name z pz] kk pt, iter, ifs, 0⟩] scope pos) (some (.Name u pu)) spos.line X.env = pure true)
    (hu : X.N[i]? = some u := by rfl) (hul : X.env.scope.names.lookup u = some .local := by rfl)
    (hi : X.N[j]? = some y := by rfl) (hl : X.N[l]? = some z := by rfl) (hc : X.calm = true := by rfl) (hx : ∀ cl Cl, Loc (compEnvC scope cl Cl X.env).scope y := by intro _ _; first | exact Or.inl rfl | exact Or.inr rfl)
    (hz : ∀ cl Cl, Loc (compEnvC scope cl Cl X.env).scope z := by intro _ _; first | exact Or.inl rfl | exact Or.inr rfl)
    (hf : ∀ s H Cl cl fp, (blkX X scope s H Cl cl fp).fn y = true ∨ (blkX X scope s H Cl cl fp).env.scope.names.lookup y = some .local := by intro _ _ _ _ _; first | exact .inl rfl | exact .inr rfl)
    (hg : ∀ s H Cl cl fp, (blkX X scope s H Cl cl fp).fn z = true ∨ (blkX X scope s H Cl cl fp).env.scope.names.lookup z = some .local := by intro _ _ _ _ _; first | exact .inl rfl | exact .inr rfl)
    (hn : ∀ s H Cl cl fp, (assignEach [.Name y py, .Name z pz] (blkX X scope s H Cl cl fp).env).length = 2 := by intro _ _ _ _ _; rfl) (hst : ∀ s H Cl cl fp, (assignEach [.Name y py, .Name z pz] (blkX X scope s H Cl cl fp).env).findIdx? (·.1) = none := by intro _ _ _ _ _; rfl)
    (hs : ∀ x, foldedSetIterable iter X.env x = pure x := by intro _; rfl) : DS X δ (.Assign [.Name u pu] (.ListComp elt [⟨.Tuple [.Name y py, .Name z pz] kk pt, iter, ifs, 0⟩] scope pos) spos) Φ := by
  intro C S σ H D I k
  refine tS_of (ps_setLc (wi := tI X _ _) (tt := tIfs X scope ifs) (te := tElt X scope elt) (g := gTup X.K 2 (gCons (gName j) (gCons (gName l) gNil))) hc hN hu hul hsw pi_tI ok (fun s H Cl cl fp => pg_two hc hN hi hl (hx cl Cl) (hz cl Cl) (hf s H Cl cl fp) (hg s H Cl cl fp) (hn s H Cl cl fp) (hst s H Cl cl fp)) pts_tIfs pe_tElt hs) ?_
  exact lc_read2 h I fun p H' xs ds I' f s h3 h1 h4 hp hd q => own_end i I k I' s h3 h1 h4 hp hd q
/-- a comprehension that maps -/
theorem LcAsk.map {scope : Scope} {j : Nat} {Ψ : List PyData → Prop} {its : List PyData} (f : PyData → PyData) (hl : its.length ≤ 1000000) (h : ∀ d, d ∈ its → ∀ s H0 Cl cl fp, DE (blkX X scope s H0 Cl cl fp) ((wipeD δ [j]).set j (.dt d)) elt fun y => y = f d) (q : Ψ (its.map f)) : LcAsk X δ scope j [] elt Ψ its := by
  refine ⟨hl, fun i acc => acc = (its.take i).map f, by simp, fun i d acc e1 e2 s H0 Cl cl fp => de_imp (h d (List.mem_of_getElem? e1) s H0 Cl cl fp) fun y hy => ?_, fun acc e => by rw [e, List.take_length]; exact q⟩
  show acc ++ [y] = (its.take (i + 1)).map f
  rw [show acc = (its.take i).map f from e2, hy, List.take_add_one, e1, List.map_append] <;> rfl
end

/-! ### calls of the text's own defs -/
/-- a def that changes nothing that stood: F tells, of the arguments' data, what holds of the answer's -/
def spP (F : List PyData → (PyData → Prop) → Prop) : Sp := fun vs H Q _ => ∃ (S : Addr → Prop) (ds : List PyData) (Ψ : PyData → Prop), (∀ b, S b → H b ≠ none) ∧ Dds (Kn S H) vs ds ∧ F ds Ψ ∧ ∀ v H' d, Ψ d → Same H H' → Dd (Kn S H') v d → Q v H'
/-- a def that draws from the deck, its first argument -/
def spK (F : List PyData → (PyData → Prop) → Prop) : Sp := fun vs H Q _ => ∃ (a : Addr) (ns : List Int) (us : List V) (S : Addr → Prop) (ds : List PyData) (Ψ : PyData → Prop), vs = .ref a :: us ∧ S a ∧ H a = some (.lst (ns.map V.int)) ∧ (∀ b, S b → H b ≠ none) ∧ Dds (Kn S H) us ds ∧ F ds Ψ ∧
  ∀ v H' d (ms : List Int), Ψ d → (∀ b o, b ≠ a → H b = some o → H' b = some o) → H' a = some (.lst (ms.map V.int)) → Dd (Kn S H') v d → Q v H'
structure Has (P : Program) (w : World) (K : PySem.W.Frag) (mg : Str → Option Value) (base : Heap) (x : Str) (k : Nat) (ps : List Str) (sp : Sp) : Prop where
  ex : ∃ f fd, FnOk P w K mg base CX0 k f fd ps sp ∧ mg x = some (.ref f) ∧ PySem.W.keepIn K (.ref f) = true ∧ Binds K fd ps []
/-- where a def of the text stands -/
structure Dfn (K : PySem.W.Frag) (mg : Str → Option Value) (x : Str) (st : Stmt) (ps : List Str) : Prop where
  ex : ∃ f fd, Fun K x x st f fd ∧ mg x = some (.ref f) ∧ Binds K fd ps []
theorem Has.mono {P : Program} {w : World} {K : PySem.W.Frag} {mg : Str → Option Value} {base : Heap} {x : Str} {j k : Nat} {ps : List Str} {sp : Sp} (h : Has P w K mg base x j ps sp) (l : j ≤ k) : Has P w K mg base x k ps sp := by
  obtain ⟨f, fd, h1, h2⟩ := h.ex
  exact ⟨f, fd, h1.mono l, h2⟩
theorem Has.imp {P : Program} {w : World} {K : PySem.W.Frag} {mg : Str → Option Value} {base : Heap} {x : Str} {k : Nat} {ps : List Str} {F F' : List PyData → (PyData → Prop) → Prop} (h : Has P w K mg base x k ps (spP F)) (i : ∀ ds Ψ, F' ds Ψ → F ds Ψ) : Has P w K mg base x k ps (spP F') := by
  obtain ⟨f, fd, h1, h2⟩ := h.ex
  exact ⟨f, fd, h1.imp fun vs H Q E ⟨S, ds, Ψ, q1, q2, q3, q4⟩ => ⟨S, ds, Ψ, q1, q2, i ds Ψ q3, q4⟩, h2⟩
section
variable {X : Cx} {δ : List Sl} {Ψ : PyData → Prop} {e : Expr} {es : List Expr} {pos p : Pos} {x : Str} {k j : Nat} {ps : List Str} {F : List PyData → (PyData → Prop) → Prop}
theorem de_call (G : Has X.prog X.w X.K X.mg X.base x k ps (spP F)) (hr : Room j X.A) (hk : k ≤ j) (h : DA X δ (e :: es) fun ds => F ds Ψ) (hg : Gl X x := by rfl)
    (hdb : (x == ("__debug__" : Str)) = false := by decide) (he : starEach (e :: es) X.env = (false, eval e X.env) :: starEach es X.env := by rfl) (hpl : (backTo pos (starEach es X.env)).any (·.1) = false := by rfl) : DE X δ (.Call (.Name x p) (e :: es) [] pos) Ψ := by
  intro C S σ H I Q q
  obtain ⟨f, fd, G1, G2, G3, G4⟩ := G.ex
  refine tE_of (pe_call G1 (hr.mono hk) hg G2 G3 G4 .nil pass0 pa_tA hdb he hpl) (h C S σ H I _ fun vs H1 ds I1 s1 h1 q1 => ?_)
  rw [List.append_nil]
  exact ⟨S, ds, Ψ, I1.live, h1, q1, fun v H' d hd sm hv => q v H' d (I1.same sm) (s1.trans (Fd.of sm)) hv hd⟩
theorem de_callK {dn : Str} {pd : Pos} (i : Nat) (G : Has X.prog X.w X.K X.mg X.base x k ps (spK F)) (hr : Room j X.A) (hk : k ≤ j) (hi : δ[i]? = some .dk) (h : DA X δ es fun ds => F ds Ψ) (hg : Gl X x := by rfl) (hN : X.N[i]? = some dn := by rfl)
    (hv : Vis X.env.scope dn := by first | exact Or.inl rfl | exact Or.inr (Or.inl rfl) | exact Or.inr (Or.inr rfl)) (hdb2 : (dn == ("__debug__" : Str)) = false := by decide) (hcd2 : (dn == ("__classdict__" : Str)) = false := by decide)
    (hdb : (x == ("__debug__" : Str)) = false := by decide) (he : starEach (.Name dn pd :: es) X.env = (false, eval (.Name dn pd) X.env) :: starEach es X.env := by rfl) (hpl : (backTo pos (starEach es X.env)).any (·.1) = false := by rfl) :
    DE X δ (.Call (.Name x p) (.Name dn pd :: es) [] pos) Ψ := by
  intro C S σ H I Q q
  obtain ⟨f, fd, G1, G2, G3, G4⟩ := G.ex
  refine tE_of (pe_call G1 (hr.mono hk) hg G2 G3 G4 .nil pass0 (pa_cons (pe_var hN hv hdb2 hcd2) pa_tA he) hdb he hpl) ?_
  obtain ⟨v0, hv0, a, ns0, rfl, _⟩ := I.at_ hi
  refine ⟨.ref a, hv0, ?_⟩
  refine h C S σ H I _ fun vs H1 ds I1 s1 h1 q1 => ?_
  show spK F ((.ref a :: vs) ++ []) H1 Q E0
  rw [List.append_nil]
  obtain ⟨v1, hv1, a1, ns, e1, hS, hM, hH⟩ := I1.at_ hi
  rw [hv0] at hv1
  cases hv1; cases e1
  refine ⟨a, ns, vs, S, ds, Ψ, rfl, hS, hH, I1.live, h1, q1, fun v H' d ms hd sm hm hv' => ?_⟩
  obtain ⟨I2, s2⟩ := I1.deck hi hv0 sm hm
  exact q v H' d I2 (s1.trans fun b o e n => sm b o (fun z => n i (z ▸ hv0) hi) e) hv' hd
end
def startD (N : List Str) (ds : List PyData) : List Sl := ds.map .dt ++ List.replicate (N.length - ds.length) .no
def startK (N : List Str) (ds : List PyData) : List Sl := .dk :: (ds.map .dt ++ List.replicate (N.length - (ds.length + 1)) .no)
theorem rep_get {α : Type} {n i : Nat} {a b : α} (h : (List.replicate n a)[i]? = some b) : b = a := by
  rw [List.getElem?_replicate] at h
  split at h
  · exact (Option.some.inj h).symm
  · cases h
theorem Dds.start {H : Hp} {vs : List V} {ds : List PyData} (h : Dds H vs ds) {n : Nat} {i : Nat} {v : Option V} {s : Sl} (h1 : (vs.map some ++ List.replicate n none)[i]? = some v) (h2 : (ds.map Sl.dt ++ List.replicate n Sl.no)[i]? = some s) :
    s = .no ∨ ∃ x d, v = some x ∧ s = .dt d ∧ Dd H x d := by
  by_cases hi : i < ds.length
  · rw [List.getElem?_append_left (by rw [List.length_map, h.length]; exact hi), List.getElem?_map] at h1
    rw [List.getElem?_append_left (by rw [List.length_map]; exact hi), List.getElem?_map] at h2
    obtain ⟨x, q1, q2⟩ := h.get (List.getElem?_eq_getElem hi)
    rw [q1] at h1
    rw [List.getElem?_eq_getElem hi] at h2
    cases h1; cases h2
    exact .inr ⟨x, _, rfl, rfl, q2⟩
  · rw [List.getElem?_append_right (by rw [List.length_map]; omega)] at h2
    exact .inl (rep_get h2)
section
variable {P : Program} {w : World} {K : PySem.W.Frag} {mg : Str → Option Value} {base : Heap}
/-- THE RULE for a def that changes nothing -/
theorem okP {x qual : Str} {st : Stmt} {f : Addr} {fd : FuncData} {N ps : List Str} {k : Nat} {F : List PyData → (PyData → Prop) → Prop} (Fn : Fun K x qual st f fd) (Sc : FnScope N ps (defScope st)) (len : ∀ ds Ψ, F ds Ψ → ds.length = ps.length)
    (hbody : ∀ (cdv : Value) (A : Around) (outer : List Env) (s : Shared) (H : Hp) (E : XK), Room k (A.deeper (envOfC qual (defScope st) s.heap.objs.size f cdv)) → ∀ ds Ψ, F ds Ψ →
      DSs (cxOf CX0 P w K mg base N qual (defScope st) f cdv A outer s H E).nox (startD N ds) (defBody st) { nx := fun _ => Ψ .none, rt := Ψ }) : FnOk P w K mg base CX0 (k + 1) f fd ps (spP F) := by
  refine Fn.ok Sc (fun vs H Q E h => ?_) (fun cdv A outer s H vs Q E hr h => ?_)
  · obtain ⟨S, ds, Ψ, _, h1, h2, _⟩ := h
    rw [h1.length, len ds Ψ h2]
  · obtain ⟨S, ds, Ψ, hl, h1, h2, q⟩ := h
    refine ⟨_, pss_tSs, ?_⟩
    have e1 := h1.length
    refine hbody cdv A outer s H E hr ds Ψ h2 ⟨H, S, fun _ => False⟩ S _ H _ ⟨?_, fun i v s h3 h4 => ?_, fun i j p s u h3 h4 h5 h6 h7 h8 => ?_, hl, fun b hb => hb, fun b o e _ => e, fun b hb => hb.elim, fun b hb => hb.elim⟩ ⟨?_, ?_, ?_, ?_⟩
    · unfold L2.start startD
      simp [e1]
    · unfold L2.start at h3
      unfold startD at h4
      rw [e1] at h3
      rcases h1.start h3 h4 with rfl | ⟨x, d, rfl, rfl, z⟩
      · trivial
      · exact ⟨x, rfl, z⟩
    · unfold L2.start at h3
      unfold startD at h5
      rw [e1] at h3
      rcases h1.start h3 h5 with rfl | ⟨x, d, _, rfl, z⟩ <;> cases h7
    · intro S' σ' H' δ' p I' _
      exact q .non H' .none p (fun b o e => I'.keep b o e (fun z => z)) .non
    · intro v H' d p r hv
      exact q v H' d p (fun b o e => r.keep b o e (fun z => z)) hv
    · intro S' σ' H' δ' p; exact p.elim
    · intro S' σ' H' δ' p; exact p.elim
/-- .. that draws -/
theorem okK {x qual : Str} {st : Stmt} {f : Addr} {fd : FuncData} {N ps : List Str} {k : Nat} {F : List PyData → (PyData → Prop) → Prop} (Fn : Fun K x qual st f fd) (Sc : FnScope N ps (defScope st)) (len : ∀ ds Ψ, F ds Ψ → ds.length + 1 = ps.length)
    (hbody : ∀ (cdv : Value) (A : Around) (outer : List Env) (s : Shared) (H : Hp) (E : XK), Room k (A.deeper (envOfC qual (defScope st) s.heap.objs.size f cdv)) → ∀ ds Ψ, F ds Ψ →
      DSs (cxOf CX0 P w K mg base N qual (defScope st) f cdv A outer s H E).nox (startK N ds) (defBody st) { nx := fun _ => Ψ .none, rt := Ψ }) : FnOk P w K mg base CX0 (k + 1) f fd ps (spK F) := by
  refine Fn.ok Sc (fun vs H Q E h => ?_) (fun cdv A outer s H vs Q E hr h => ?_)
  · obtain ⟨a, ns, us, S, ds, Ψ, rfl, _, _, _, h1, h2, _⟩ := h
    rw [List.length_cons, h1.length, len ds Ψ h2]
  · obtain ⟨a, ns, us, S, ds, Ψ, rfl, hSa, hHa, hl, h1, h2, q⟩ := h
    refine ⟨_, pss_tSs, ?_⟩
    have e1 := h1.length
    have key : ∀ (i : Nat) v s, (L2.start N (.ref a :: us))[i]? = some v → (startK N ds)[i]? = some s → (i = 0 ∧ v = some (.ref a) ∧ s = .dk) ∨ s = .no ∨ ∃ x d, v = some x ∧ s = .dt d ∧ Dd (Kn S H) x d := by
      intro i v s h3 h4
      unfold L2.start at h3
      unfold startK at h4
      rw [List.map_cons, List.cons_append, List.length_cons, e1] at h3
      cases i with
      | zero => simp at h3 h4; exact .inl ⟨rfl, h3.symm, h4.symm⟩
      | succ i =>
        rw [List.getElem?_cons_succ] at h3 h4
        exact .inr (h1.start h3 h4)
    refine hbody cdv A outer s H E hr ds Ψ h2 ⟨H, S, fun b => b = a⟩ S _ H _ ⟨?_, fun i v s h3 h4 => ?_, fun i j p s u h3 h4 h5 h6 h7 h8 => ?_, hl, fun b hb => hb, fun b o e _ => e, fun b hb => ⟨ns, by rw [hb]; exact hHa⟩, fun b hb => by rw [hb]; exact hSa⟩ ⟨?_, ?_, ?_, ?_⟩
    · unfold L2.start startK
      simp [e1]
    · rcases key i v s h3 h4 with ⟨_, rfl, rfl⟩ | rfl | ⟨x, d, rfl, rfl, z⟩
      · exact ⟨a, ns, rfl, hSa, .inl rfl, hHa⟩
      · trivial
      · exact ⟨x, rfl, z⟩
    · rcases key i _ s h3 h5 with ⟨e0, _, rfl⟩ | rfl | ⟨x, d, _, rfl, z⟩
      · rcases key j _ u h4 h6 with ⟨e2, _, rfl⟩ | rfl | ⟨x, d, _, rfl, z⟩
        · rw [e0, e2]
        · cases h8
        · cases h8
      · cases h7
      · cases h7
    · intro S' σ' H' δ' p I' _
      obtain ⟨ms, hm⟩ := I'.keepM a rfl
      exact q .non H' .none ms p (fun b o hb e => I'.keep b o e hb) hm .non
    · intro v H' d p r hv
      obtain ⟨ms, hm⟩ := r.keepM a rfl
      exact q v H' d ms p (fun b o hb e => r.keep b o e hb) hm hv
    · intro S' σ' H' δ' p; exact p.elim
    · intro S' σ' H' δ' p; exact p.elim
end
end DL

set_option Elab.async false
set_option linter.all false
set_option maxRecDepth 100000
set_option maxHeartbeats 1000000
namespace DL
open PySem PySem.Spec PyProof.Rows L2
section
variable {X : Cx} {δ : List Sl} {Φ : EndsD} {Ψ : PyData → Prop} {e a b c lo : Expr} {es : List Expr} {pos p p2 pos2 : Pos} {x : Str}

/-! ### built-ins -/
theorem Dd.seq {H : Hp} {K : PySem.W.Frag} {v : V} {d : PyData} {ds : List PyData} (h : Dd H v d) (e : d = .list ds ∨ d = .tuple ds) : ∃ p xs, v = .ref p ∧ (SqL K H p xs ∨ SqT K H p xs) ∧ Dds H xs ds := by
  rcases e with rfl | rfl
  · obtain ⟨p, xs, rfl, h1, h2⟩ := h.lst_inv; exact ⟨p, xs, rfl, .inl (.inl (.inl h1)), h2⟩
  · obtain ⟨p, xs, rfl, h1, h2⟩ := h.tup_inv; exact ⟨p, xs, rfl, .inr (.inl (.inl h1)), h2⟩
theorem de_len (hm : X.mg "len" = none) (h : DE X δ e fun d => ∃ ds, (d = .list ds ∨ d = .tuple ds) ∧ Ψ (.int (ds.length : Nat))) (hg : Gl X "len" := by rfl)
    (hs : starEach (e :: []) X.env = (false, eval e X.env) :: starEach [] X.env := by rfl) : DE X δ (.Call (.Name "len" p) [e] [] pos) Ψ := by
  intro C S σ H I Q k
  refine tE_of (pe_callB call_len_seq hg hm PySem.boot_len (pa_cons pe_tE pa_nil hs) (by decide) (by decide) hs rfl) (h C S σ H I _ fun v H' d I' s h' q => ?_)
  obtain ⟨ds, e1, q⟩ := q
  obtain ⟨a, xs, rfl, h2, h3⟩ := (h'.mono (kn_le)).seq (K := X.K) e1
  refine ⟨a, xs, rfl, h2, ?_⟩
  rw [h3.length]
  exact k _ H' _ I' s (.int _) q
/-- len of an own list -/
theorem de_lenO {ds : List PyData} (i : Nat) (hm : X.mg "len" = none) (ho : δ[i]? = some (.ow ds)) (q : Ψ (.int (ds.length : Nat))) {y : Str} {py : Pos} (hg : Gl X "len" := by rfl) (hN : X.N[i]? = some y := by rfl)
    (hv : Vis X.env.scope y := by first | exact Or.inl rfl | exact Or.inr (Or.inl rfl) | exact Or.inr (Or.inr rfl)) (hdb : (y == ("__debug__" : Str)) = false := by decide) (hcd : (y == ("__classdict__" : Str)) = false := by decide)
    (hs : starEach (.Name y py :: []) X.env = (false, eval (.Name y py) X.env) :: starEach [] X.env := by rfl) : DE X δ (.Call (.Name "len" p) [.Name y py] [] pos) Ψ := by
  intro C S σ H I Q k
  obtain ⟨v, hv', r, xs, rfl, hS, h0, hn, hp, hd⟩ := I.at_ ho
  refine tE_of (pe_callB call_len_seq hg hm PySem.boot_len (pa_cons (pe_var hN hv hdb hcd) pa_nil hs) (by decide) (by decide) hs rfl) ⟨.ref r, hv', r, xs, rfl, .inl (.inl (.inl hp)), ?_⟩
  rw [hd.length]
  exact k _ H _ I (Fd.refl _) (.int _) q
/-- an own list's item -/
theorem de_ixO {ds : List PyData} {d : PyData} (i : Nat) (ho : δ[i]? = some (.ow ds)) {y : Str} {py : Pos} (h : DE X δ b fun d2 => ∃ n, d2 = .int n ∧ L2.atI ds n = some d ∧ Ψ d) (hs : PlainIx b := by exact fun _ _ => rfl) (hN : X.N[i]? = some y := by rfl)
    (hv : Vis X.env.scope y := by first | exact Or.inl rfl | exact Or.inr (Or.inl rfl) | exact Or.inr (Or.inr rfl)) (hdb : (y == ("__debug__" : Str)) = false := by decide) (hcd : (y == ("__classdict__" : Str)) = false := by decide) : DE X δ (.Subscript (.Name y py) b pos) Ψ := by
  intro C S σ H I Q k
  obtain ⟨v, hv', r, xs, rfl, hS, h0, hn, hp, hd⟩ := I.at_ ho
  refine tE_of (pe_ix ix_list (pe_var hN hv hdb hcd) pe_tE hs) ⟨.ref r, hv', ?_⟩
  refine h C S σ H I _ fun w H' d2 I' s h2 q => ?_
  obtain ⟨n, rfl, e, q⟩ := q
  obtain ⟨v1, hv1, r1, xs1, e1, hS1, h01, hn1, hp1, hd1⟩ := I'.at_ ho
  rw [hv'] at hv1
  cases hv1; cases e1
  obtain ⟨u, hu, hdu⟩ := hd1.atI e
  exact ⟨r, xs1, n, u, rfl, h2.int_inv, .inl (.inl hp1), hu, k u H' d I' s hdu q⟩
/-- own != [] -/
theorem dt_neO {Ψ : Bool → Prop} {ds : List PyData} (i : Nat) (ho : δ[i]? = some (.ow ds)) (hu : X.A.units + 64 < cLine) (hsh : SeqAt.shaped (.list ds) = true) {y : Str} {py pb : Pos} (q : Ψ (!ds.isEmpty)) (hN : X.N[i]? = some y := by rfl)
    (hv : Vis X.env.scope y := by first | exact Or.inl rfl | exact Or.inr (Or.inl rfl) | exact Or.inr (Or.inr rfl)) (hdb : (y == ("__debug__" : Str)) = false := by decide) (hcd : (y == ("__classdict__" : Str)) = false := by decide) : DT X δ (.Compare (.Name y py) [.NotEq] [.List [] pb] pos) Ψ := by
  intro C S σ H I Q k
  obtain ⟨v, hv', r, xs, rfl, hS, h0, hn, hp, hd⟩ := I.at_ ho
  refine tT_of (pt_cmpR (op_neD hu) (pe_var hN hv hdb hcd) (pe_lst pa_nil) (nomark _)) ⟨.ref r, hv', Nat.zero_le _, fun p hp2 => ?_⟩
  have hd2 : Dd (upd H p (.lst [])) (.ref r) (.list ds) := .lst (same_upd hp2 _ _ hp) ((hd.mono kn_le).mono (same_upd hp2))
  have hd3 : Dd (upd H p (.lst [])) (.ref p) (.list []) := .lst upd_same .nil
  refine ⟨.list ds, .list [], hd2.dp, hd3.dp, hsh, by decide, !ds.isEmpty, ?_, k _ _ (I.same (same_upd hp2)) (Fd.of (same_upd hp2)) q⟩
  cases ds <;> rfl
theorem de_tupleOf (hm : X.mg "tuple" = none) (h : DE X δ e fun d => ∃ ds, (d = .list ds ∨ d = .tuple ds) ∧ Ψ (.tuple ds)) (hg : Gl X "tuple" := by rfl)
    (hs : starEach (e :: []) X.env = (false, eval e X.env) :: starEach [] X.env := by rfl) : DE X δ (.Call (.Name "tuple" p) [e] [] pos) Ψ := by
  intro C S σ H I Q k
  refine tE_of (pe_callTy call_tuple_of hg hm PyProof.Rows.boot_tuple (pa_cons pe_tE pa_nil hs) (by decide) (by decide) hs rfl) (h C S σ H I _ fun v H' d I' s h' q => ?_)
  obtain ⟨ds, e1, q⟩ := q
  rcases e1 with rfl | rfl
  · obtain ⟨a, xs, rfl, h2, h3⟩ := h'.lst_inv
    refine ⟨a, xs, rfl, .inl ⟨.inl (.inl (kn_le _ _ h2)), fun l hl => ?_⟩⟩
    have kp : Kn S (upd H' l (.tup xs)) l = some (.tup xs) := kn_some.mpr ⟨(I'.fresh hl).2.2.1, upd_same⟩
    exact k _ _ _ (I'.same (same_upd hl)) (s.trans (Fd.of (same_upd hl))) (.tup kp (h3.mono (kn_same (same_upd hl)))) q
  · obtain ⟨a, xs, rfl, h2, h3⟩ := h'.tup_inv
    exact ⟨a, xs, rfl, .inr ⟨.inl (.inl (kn_le _ _ h2)), k _ H' _ I' s (.tup h2 h3) q⟩⟩
theorem dl_listOf {Ψ : List PyData → Prop} (hm : X.mg "list" = none) (h : DE X δ e fun d => ∃ ds, (d = .list ds ∨ d = .tuple ds) ∧ Ψ ds) (hg : Gl X "list" := by rfl)
    (hs : starEach (e :: []) X.env = (false, eval e X.env) :: starEach [] X.env := by rfl) : DL_ X δ (.Call (.Name "list" p) [e] [] pos) Ψ := by
  intro C S σ H I Q k
  refine tE_of (pe_callTy call_list_of hg hm PyProof.Rows.boot_list (pa_cons pe_tE pa_nil hs) (by decide) (by decide) hs rfl) (h C S σ H I _ fun v H' d I' s h' q => ?_)
  obtain ⟨ds, e1, q⟩ := q
  obtain ⟨a, xs, rfl, h2, h3⟩ := h'.seq (K := X.K) e1
  refine ⟨a, xs, rfl, ?_, fun l hl => ?_⟩
  · rcases h2 with h2 | h2
    · exact .inl (same_sq kn_le h2)
    · rcases h2 with (h2 | ⟨o, h2⟩) | h2
      · exact .inr (.inl (.inl (kn_le _ _ h2)))
      · exact .inr (.inl (.inr ⟨o, kn_le _ _ h2⟩))
      · exact .inr (.inr h2)
  · obtain ⟨f1, f2, f3, f4⟩ := I'.fresh hl
    exact k l _ xs ds (I'.hid hl) (s.trans (Fd.of (same_upd hl))) ((s.kn I).trans (kn_add hl)) f3 f1 f4 upd_same (h3.mono (kn_add hl)) q
theorem de_intOf (hm : X.mg "int" = none) (h : DE X δ e fun d => ∃ b, d = .bool b ∧ Ψ (.int (if b then 1 else 0))) (hg : Gl X "int" := by rfl)
    (hs : starEach (e :: []) X.env = (false, eval e X.env) :: starEach [] X.env := by rfl) : DE X δ (.Call (.Name "int" p) [e] [] pos) Ψ := by
  intro C S σ H I Q k
  refine tE_of (pe_callTy call_int1 hg hm PyProof.Rows.boot_int (pa_cons pe_tE pa_nil hs) (by decide) (by decide) hs rfl) (h C S σ H I _ fun v H' d I' s h' q => ?_)
  obtain ⟨c, rfl, q⟩ := q
  rw [h'.bl_inv]
  exact .inr ⟨c, rfl, k _ H' _ I' s (.int _) q⟩
theorem de_min (hm : X.mg "min" = none) (h : DE X δ a fun d1 => DE X δ b fun d2 => ∃ i j, d1 = .int i ∧ d2 = .int j ∧ Ψ (.int (if j < i then j else i))) (hg : Gl X "min" := by rfl) (hc : X.calm = true := by rfl)
    (hs1 : starEach (b :: []) X.env = (false, eval b X.env) :: starEach [] X.env := by rfl) (hs : starEach (a :: [b]) X.env = (false, eval a X.env) :: starEach [b] X.env := by rfl)
    (hpl : (backTo pos (starEach [b] X.env)).any (·.1) = false := by rfl) : DE X δ (.Call (.Name "min" p) [a, b] [] pos) Ψ := by
  intro C S σ H I Q k
  refine tE_of (pe_callB (call_min2 hc) hg hm PyProof.Rows.boot_min (pa_cons pe_tE (pa_cons pe_tE pa_nil hs1) hs) (by decide) (by decide) hs hpl) (two h I fun v w H' d1 d2 I' s h1 h2 q => ?_)
  obtain ⟨i, j, rfl, rfl, q⟩ := q
  rw [h1.int_inv, h2.int_inv]
  exact ⟨i, j, rfl, k _ H' _ I' s (.int _) q⟩
def tyD : PyData → String
  | .none => "NoneType"
  | .bool _ => "bool"
  | .int _ => "int"
  | .str _ => "str"
  | .list _ => "list"
  | .tuple _ => "tuple"
  | .dict _ => "dict"
theorem tyX_of {K : PySem.W.Frag} {H : Hp} {v : V} {d : PyData} (h : Dd H v d) : TyX K H v (.type (tyD d)) := by
  cases h with
  | non => exact .base .non
  | bl b => exact .base (.bl b)
  | int i => exact .base (.int i)
  | str x => exact .base (.str x)
  | lst h1 _ => exact .base (.lst h1)
  | tup h1 _ => exact .base (.tup h1)
theorem de_isi {T : String} {pt : Pos} (hm : X.mg "isinstance" = none) (hmT : X.mg (Str.ofString T) = none) (hv : bootBuiltins (Str.ofString T) = some (.type T)) (h : DE X δ e fun d => ∃ r, kitB (tyD d) T = some r ∧ Ψ (.bool r)) (hg : Gl X "isinstance" := by rfl) (hgT : Gl X (Str.ofString T) := by rfl)
    (hn : (Str.ofString T) ≠ "__name__" := by decide) (hdb : ((Str.ofString T) == ("__debug__" : Str)) = false := by decide)
    (hs1 : starEach (.Name (Str.ofString T) pt :: []) X.env = (false, eval (.Name (Str.ofString T) pt) X.env) :: starEach [] X.env := by rfl) (hs : starEach (e :: [.Name (Str.ofString T) pt]) X.env = (false, eval e X.env) :: starEach [.Name (Str.ofString T) pt] X.env := by rfl)
    (hpl : (backTo pos (starEach [.Name (Str.ofString T) pt] X.env)).any (·.1) = false := by rfl) : DE X δ (.Call (.Name "isinstance" p) [e, .Name (Str.ofString T) pt] [] pos) Ψ := by
  intro C S σ H I Q k
  refine tE_of (pe_callB call_isi hg hm PyProof.Rows.boot_isinstance (pa_cons pe_tE (pa_cons (pe_bltn (v := .ty T) hgT hmT hv rfl hn hdb) pa_nil hs1) hs) (by decide) (by decide) hs hpl) (h C S σ H I _ fun v H' d I' s h' q => ?_)
  obtain ⟨r, e1, q⟩ := q
  exact ⟨v, .ty T, _, _, r, rfl, .ty T, tyX_of (h'.mono kn_le), kit_ty e1, k _ H' _ I' s (.bl _) q⟩

/-! ### slices -/
theorem cutV_from (xs : List V) (n : Nat) (h : n ≤ xs.length) : cutV xs (some (n : Int)) none = xs.drop n := by
  unfold cutV
  rw [HT.sIx_nat, HT.sIx_none, Nat.min_eq_left h]
  exact List.take_of_length_le (by rw [List.length_drop]; exact Nat.le_refl _)
theorem cutV_to (xs : List V) (n : Nat) : cutV xs none (some (n : Int)) = xs.take n := by
  unfold cutV
  rw [HT.sIx_nat, HT.sIx_none, List.drop_zero, Nat.sub_zero]
  by_cases h : n ≤ xs.length
  · rw [Nat.min_eq_left h]
  · rw [Nat.min_eq_right (by omega), List.take_length, List.take_of_length_le (by omega)]
theorem dl_sliceL {Ψ : List PyData → Prop} (h : DE X δ e fun d1 => DE X δ lo fun d2 => ∃ ds n, d1 = .list ds ∧ d2 = .int ((n : Nat) : Int) ∧ n ≤ ds.length ∧ Ψ (ds.drop n)) : DL_ X δ (.Subscript e (.Slice (some lo) none none p2) pos) Ψ := by
  intro C S σ H I Q k
  refine tE_of (pe_slice sl_list pe_tE (po_some pe_tE) po_none) (two h I fun v w H' d1 d2 I' s h1 h2 q => ?_)
  obtain ⟨ds, n, rfl, rfl, hn, q⟩ := q
  obtain ⟨a, xs, rfl, g1, g2⟩ := h1.lst_inv
  refine ⟨(n : Int), h2.int_inv, a, xs, rfl, .inl (.inl (kn_le _ _ g1)), fun l hl => ?_⟩
  rw [cutV_from xs n (by rw [g2.length]; exact hn)]
  obtain ⟨f1, f2, f3, f4⟩ := I'.fresh hl
  exact k l _ _ _ (I'.hid hl) (s.trans (Fd.of (same_upd hl))) ((s.kn I).trans (kn_add hl)) f3 f1 f4 upd_same ((g2.drop n).mono (kn_add hl)) q
theorem de_sliceT (h : DE X δ e fun d1 => DE X δ lo fun d2 => ∃ ds n, d1 = .tuple ds ∧ d2 = .int ((n : Nat) : Int) ∧ n ≤ ds.length ∧ Ψ (.tuple (ds.drop n))) : DE X δ (.Subscript e (.Slice (some lo) none none p2) pos) Ψ := by
  intro C S σ H I Q k
  refine tE_of (pe_slice sl_tupA pe_tE (po_some pe_tE) po_none) (two h I fun v w H' d1 d2 I' s h1 h2 q => ?_)
  obtain ⟨ds, n, rfl, rfl, hn, q⟩ := q
  obtain ⟨a, xs, rfl, g1, g2⟩ := h1.tup_inv
  have hl := g2.length
  refine ⟨(n : Int), h2.int_inv, a, xs, rfl, .inl (.inl (kn_le _ _ g1)), fun z => ?_, fun _ l hl => ?_⟩
  · rw [HT.sIx_nat, Nat.min_eq_left (by omega)] at z
    rw [z.1, List.drop_zero] at q
    exact k _ H' _ I' s (.tup g1 g2) q
  · rw [cutV_from xs n (by omega)]
    have kp : Kn S (upd H' l (.tup (xs.drop n))) l = some (.tup (xs.drop n)) := kn_some.mpr ⟨(I'.fresh hl).2.2.1, upd_same⟩
    exact k _ _ _ (I'.same (same_upd hl)) (s.trans (Fd.of (same_upd hl))) (.tup kp ((g2.drop n).mono (kn_same (same_upd hl)))) q

/-! ### text * number -/
theorem mulOk1 {x : Str} {n : Int} (hx : x.length = 1) (h1 : 1 ≤ n) (h2 : n ≤ 8) : MulOk x n := by
  have key : ∀ m : Int, (m = 1 ∨ m = 2 ∨ m = 3 ∨ m = 4 ∨ m = 5 ∨ m = 6 ∨ m = 7 ∨ m = 8) → MulOk x m := by
    intro m hm
    unfold MulOk
    rw [hx]
    rcases hm with h | h | h | h | h | h | h | h <;> subst h <;> exact ⟨by decide, fun _ _ => by decide, fun _ _ => by decide⟩
  exact key n (by omega)
def rMulS : R2 := fun x y H Q => ∃ i j, x = .str i ∧ y = .int j ∧ MulOk i j ∧ Q (.str (Txt.mul i j)) H
theorem op_mulS : OpR X (binaryOp .Mult) rMulS := by
  intro pins s σ H x y v u Q I rx ry h
  obtain ⟨i, j, rfl, rfl, hz, q⟩ := h
  obtain ⟨t, rfl⟩ := rx
  obtain ⟨t', rfl⟩ := ry
  exact SB.mul hz fun t' k => ⟨.str _, H, I.tok k, ⟨_, rfl⟩, q⟩
theorem rd_mulS {i : Str} {j : Int} (h : MulOk i j) (q : Ψ (.str (Txt.mul i j))) : RD X rMulS (.str i) (.int j) Ψ := by
  intro C S σ H δ x y I hx hy Q k
  rw [hx.str_inv, hy.int_inv]
  exact ⟨i, j, rfl, rfl, h, k _ H _ I (Fd.refl _) (.str _) q⟩
end
end DL
namespace DL
open PySem PySem.Spec PyProof.Rows L2
section
variable {X : Cx} {δ : List Sl} {elt : Expr}
/-- a comprehension whose answer is known item by item -/
theorem LcAsk.res {scope : Scope} {j : Nat} {Ψ : List PyData → Prop} {its : List PyData} (zs : List PyData) (hl : its.length ≤ 1000000) (hz : zs.length = its.length) (h : ∀ (i : Nat) d, its[i]? = some d → ∀ s H0 Cl cl fp, DE (blkX X scope s H0 Cl cl fp) ((wipeD δ [j]).set j (.dt d)) elt fun y => zs[i]? = some y) (q : Ψ zs) : LcAsk X δ scope j [] elt Ψ its := by
  refine ⟨hl, fun i acc => acc = zs.take i, by simp, fun i d acc e1 e2 s H0 Cl cl fp => de_imp (h i d e1 s H0 Cl cl fp) fun y hy => ?_, fun acc e => by rw [e, ← hz, List.take_length]; exact q⟩
  show acc ++ [y] = zs.take (i + 1)
  rw [show acc = zs.take i from e2, List.take_add_one, hy] <;> rfl
theorem LcAsk2.res {scope : Scope} {j l : Nat} {Ψ : List PyData → Prop} {xs ys : List PyData} (zs : List PyData) (hl : xs.length ≤ 1000000) (hz : zs.length = xs.length) (hy : ys.length = xs.length) (h : ∀ (i : Nat) d1 d2, xs[i]? = some d1 → ys[i]? = some d2 → ∀ s H0 Cl cl fp, DE (blkX X scope s H0 Cl cl fp) (((wipeD δ [j, l]).set j (.dt d1)).set l (.dt d2)) elt fun y => zs[i]? = some y) (q : Ψ zs) :
    LcAsk2 X δ scope j l [] elt Ψ (zipD xs ys) := by
  have hlen : (zipD xs ys).length = xs.length := by unfold zipD; rw [List.length_zipWith, hy, Nat.min_self]
  refine ⟨by rw [hlen]; exact hl, fun i acc => acc = zs.take i, by simp, fun i d acc e1 e2 => ?_, fun acc e => by rw [e, hlen, ← hz, List.take_length]; exact q⟩
  obtain ⟨d1, d2, g1, g2, rfl⟩ := zipD_get e1
  refine ⟨d1, d2, rfl, fun s H0 Cl cl fp => de_imp (h i d1 d2 g1 g2 s H0 Cl cl fp) fun y hy => ?_⟩
  show acc ++ [y] = zs.take (i + 1)
  rw [show acc = zs.take i from e2, List.take_add_one, hy] <;> rfl
end
end DL
namespace DL
open PySem PySem.Spec PyProof.Rows L2
section
variable {X : Cx} {δ : List Sl} {Ψ : PyData → Prop} {a : Expr} {pos : Pos}
theorem de_neg (h : DE X δ a fun d => ∃ i, d = .int i ∧ Ψ (.int (-i))) : DE X δ (.UnaryOp .USub a pos) Ψ := by
  intro C S σ H I Q k
  refine tE_of (pe_un un_neg pe_tE) (h C S σ H I _ fun v H' d I' s h' q => ?_)
  obtain ⟨i, rfl, q⟩ := q
  exact ⟨i, h'.int_inv, k _ H' _ I' s (.int _) q⟩
end
end DL

set_option Elab.async false
set_option linter.all false
set_option maxRecDepth 100000
set_option maxHeartbeats 1000000
/-! Plain mathematics: stumps, terms, trees. -/
namespace TM
open PySem

inductive Stump where
  | opn
  | put (n : Str) (m : Int) (ps : List Stump)
inductive Term where
  | call (m b : Nat)
  | put (n : Str) (kept : Bool) (add : Int) (ps : List Term)
inductive Tree where
  | node (n : Str) (m : Int) (bs : List Tree)
abbrev Row := Str × List Str
abbrev Wood := List (Str × List Row)
abbrev Mode := Str × List Term
structure Turning where
  wood : Wood
  start : Term
  modes : List Mode
abbrev Label := Str × Int × Nat
instance : Inhabited Stump := ⟨.opn⟩
instance : Inhabited Term := ⟨.call 0 0⟩
instance : Inhabited Tree := ⟨.node ⟨#[]⟩ 0 []⟩

/-! ### as data -/
mutual
def encS : Stump → PyData
  | .opn => .tuple [.str "open"]
  | .put n m ps => .tuple [.str "put", .str n, .int m, .tuple (encSs ps)]
def encSs : List Stump → List PyData
  | [] => []
  | p :: ps => encS p :: encSs ps
end
mutual
def encT : Term → PyData
  | .call m b => .tuple [.str "call", .int (m : Nat), .int (b : Nat)]
  | .put n k a ps => .tuple [.str "put", .str n, .bool k, .int a, .tuple (encTs ps)]
def encTs : List Term → List PyData
  | [] => []
  | p :: ps => encT p :: encTs ps
end
mutual
def encR : Tree → PyData
  | .node n m bs => .tuple [.str n, .int m, .tuple (encRs bs)]
def encRs : List Tree → List PyData
  | [] => []
  | p :: ps => encR p :: encRs ps
end
def encStr (n : Str) : PyData := .str n
def encRow (r : Row) : PyData := .tuple [.str r.1, .tuple (r.2.map encStr)]
def encRows (rs : List Row) : PyData := .list (rs.map encRow)
def encKind (k : Str × List Row) : PyData := .tuple [.str k.1, encRows k.2]
def encWood (w : Wood) : PyData := .list (w.map encKind)
def encMode (m : Mode) : PyData := .tuple [.str m.1, .list (encTs m.2)]
def encTurning (t : Turning) : PyData := .tuple [encWood t.wood, encT t.start, .list (t.modes.map encMode)]
def encNat (n : Nat) : PyData := .int (n : Nat)
def encP (p : List Nat) : PyData := .tuple (p.map encNat)
def encL (l : Label) : PyData := .tuple [.str l.1, .int l.2.1, .int (l.2.2 : Nat)]
theorem encSs_map : ∀ ps : List Stump, encSs ps = ps.map encS
  | [] => rfl
  | p :: ps => by rw [encSs, encSs_map ps]; rfl
theorem encTs_map : ∀ ps : List Term, encTs ps = ps.map encT
  | [] => rfl
  | p :: ps => by rw [encTs, encTs_map ps]; rfl
theorem encRs_map : ∀ ps : List Tree, encRs ps = ps.map encR
  | [] => rfl
  | p :: ps => by rw [encRs, encRs_map ps]; rfl
theorem encSs_len (ps : List Stump) : (encSs ps).length = ps.length := by rw [encSs_map, List.length_map]
theorem encTs_len (ps : List Term) : (encTs ps).length = ps.length := by rw [encTs_map, List.length_map]
theorem encRs_len (ps : List Tree) : (encRs ps).length = ps.length := by rw [encRs_map, List.length_map]
theorem encSs_get (ps : List Stump) (i : Nat) : (encSs ps)[i]? = ps[i]?.map encS := by rw [encSs_map, List.getElem?_map]
theorem encTs_get (ps : List Term) (i : Nat) : (encTs ps)[i]? = ps[i]?.map encT := by rw [encTs_map, List.getElem?_map]
theorem encRs_get (ps : List Tree) (i : Nat) : (encRs ps)[i]? = ps[i]?.map encR := by rw [encRs_map, List.getElem?_map]

/-! ### levels, sizes -/
mutual
def Stump.deep : Stump → Nat
  | .opn => 1
  | .put _ _ ps => Stump.deeps ps + 1
def Stump.deeps : List Stump → Nat
  | [] => 0
  | p :: ps => max p.deep (Stump.deeps ps)
end
mutual
def Term.deep : Term → Nat
  | .call _ _ => 1
  | .put _ _ _ ps => Term.deeps ps + 1
def Term.deeps : List Term → Nat
  | [] => 0
  | p :: ps => max p.deep (Term.deeps ps)
end
mutual
def Tree.deep : Tree → Nat
  | .node _ _ ps => Tree.deeps ps + 1
def Tree.deeps : List Tree → Nat
  | [] => 0
  | p :: ps => max p.deep (Tree.deeps ps)
end
mutual
def Stump.puts : Stump → Nat
  | .opn => 0
  | .put _ _ ps => Stump.putss ps + 1
def Stump.putss : List Stump → Nat
  | [] => 0
  | p :: ps => p.puts + Stump.putss ps
end
mutual
def Term.puts : Term → Nat
  | .call _ _ => 1
  | .put _ _ _ ps => Term.putss ps + 1
def Term.putss : List Term → Nat
  | [] => 0
  | p :: ps => p.puts + Term.putss ps
end
/-! names are plain texts, at most 1000 parts -/
mutual
def Stump.ok : Stump → Prop
  | .opn => True
  | .put n _ ps => PyData.strOk n = true ∧ ps.length ≤ 1000 ∧ Stump.oks ps
def Stump.oks : List Stump → Prop
  | [] => True
  | p :: ps => p.ok ∧ Stump.oks ps
end
mutual
def Term.ok : Term → Prop
  | .call _ _ => True
  | .put n _ _ ps => PyData.strOk n = true ∧ ps.length ≤ 1000 ∧ Term.oks ps
def Term.oks : List Term → Prop
  | [] => True
  | p :: ps => p.ok ∧ Term.oks ps
end
mutual
def Tree.ok : Tree → Prop
  | .node n _ ps => PyData.strOk n = true ∧ ps.length ≤ 1000 ∧ Tree.oks ps
def Tree.oks : List Tree → Prop
  | [] => True
  | p :: ps => p.ok ∧ Tree.oks ps
end
theorem Stump.oks_mem : ∀ {ps : List Stump}, Stump.oks ps → ∀ p ∈ ps, p.ok
  | [], _, p, h => by cases h
  | q :: ps, h, p, hp => by
    rcases List.mem_cons.mp hp with rfl | hp
    · exact h.1
    · exact Stump.oks_mem h.2 p hp
theorem Stump.oks_of : ∀ {ps : List Stump}, (∀ p ∈ ps, p.ok) → Stump.oks ps
  | [], _ => trivial
  | q :: ps, h => ⟨h q List.mem_cons_self, Stump.oks_of fun p hp => h p (List.mem_cons_of_mem _ hp)⟩
theorem Term.oks_mem : ∀ {ps : List Term}, Term.oks ps → ∀ p ∈ ps, p.ok
  | [], _, p, h => by cases h
  | q :: ps, h, p, hp => by
    rcases List.mem_cons.mp hp with rfl | hp
    · exact h.1
    · exact Term.oks_mem h.2 p hp
theorem Term.oks_of : ∀ {ps : List Term}, (∀ p ∈ ps, p.ok) → Term.oks ps
  | [], _ => trivial
  | q :: ps, h => ⟨h q List.mem_cons_self, Term.oks_of fun p hp => h p (List.mem_cons_of_mem _ hp)⟩
theorem Tree.oks_mem : ∀ {ps : List Tree}, Tree.oks ps → ∀ p ∈ ps, p.ok
  | [], _, p, h => by cases h
  | q :: ps, h, p, hp => by
    rcases List.mem_cons.mp hp with rfl | hp
    · exact h.1
    · exact Tree.oks_mem h.2 p hp
theorem Tree.oks_of : ∀ {ps : List Tree}, (∀ p ∈ ps, p.ok) → Tree.oks ps
  | [], _ => trivial
  | q :: ps, h => ⟨h q List.mem_cons_self, Tree.oks_of fun p hp => h p (List.mem_cons_of_mem _ hp)⟩
theorem Stump.deep_mem : ∀ {ps : List Stump} {p : Stump}, p ∈ ps → p.deep ≤ Stump.deeps ps
  | q :: ps, p, hp => by
    rcases List.mem_cons.mp hp with rfl | hp
    · exact Nat.le_max_left _ _
    · exact Nat.le_trans (Stump.deep_mem hp) (Nat.le_max_right _ _)
theorem Term.deep_mem : ∀ {ps : List Term} {p : Term}, p ∈ ps → p.deep ≤ Term.deeps ps
  | q :: ps, p, hp => by
    rcases List.mem_cons.mp hp with rfl | hp
    · exact Nat.le_max_left _ _
    · exact Nat.le_trans (Term.deep_mem hp) (Nat.le_max_right _ _)
theorem Tree.deep_mem : ∀ {ps : List Tree} {p : Tree}, p ∈ ps → p.deep ≤ Tree.deeps ps
  | q :: ps, p, hp => by
    rcases List.mem_cons.mp hp with rfl | hp
    · exact Nat.le_max_left _ _
    · exact Nat.le_trans (Tree.deep_mem hp) (Nat.le_max_right _ _)
theorem Stump.deeps_le : ∀ {ps : List Stump} {n : Nat}, (∀ p ∈ ps, p.deep ≤ n) → Stump.deeps ps ≤ n
  | [], _, _ => Nat.zero_le _
  | q :: ps, n, h => Nat.max_le.mpr ⟨h q List.mem_cons_self, Stump.deeps_le fun p hp => h p (List.mem_cons_of_mem _ hp)⟩
theorem Tree.deeps_le : ∀ {ps : List Tree} {n : Nat}, (∀ p ∈ ps, p.deep ≤ n) → Tree.deeps ps ≤ n
  | [], _, _ => Nat.zero_le _
  | q :: ps, n, h => Nat.max_le.mpr ⟨h q List.mem_cons_self, Tree.deeps_le fun p hp => h p (List.mem_cons_of_mem _ hp)⟩
theorem Term.deeps_le : ∀ {ps : List Term} {n : Nat}, (∀ p ∈ ps, p.deep ≤ n) → Term.deeps ps ≤ n
  | [], _, _ => Nat.zero_le _
  | q :: ps, n, h => Nat.max_le.mpr ⟨h q List.mem_cons_self, Term.deeps_le fun p hp => h p (List.mem_cons_of_mem _ hp)⟩

/-! ### equality of data -/
theorem strOk_open : PyData.strOk "open" = true := by decide +kernel
theorem strOk_put : PyData.strOk "put" = true := by decide +kernel
theorem strOk_call : PyData.strOk "call" = true := by decide +kernel
theorem ne_put_open : (("put" : Str) == "open") = false := by decide +kernel
theorem ne_open_put : (("open" : Str) == "put") = false := by decide +kernel
theorem beq_str (x y : Str) : (x == y) = decide (x = y) := by
  by_cases h : x = y
  · subst h; simp
  · rw [decide_eq_false h]; exact beq_eq_false_iff_ne.mpr h
theorem beq_int (x y : Int) : (x == y) = decide (x = y) := by
  by_cases h : x = y
  · subst h; simp
  · rw [decide_eq_false h]; exact beq_eq_false_iff_ne.mpr h
theorem eqv_str (x y : Str) : PyData.eqv (.str x) (.str y) = decide (x = y) := by rw [PyData.eqv]; exact beq_str x y
theorem eqv_int (x y : Int) : PyData.eqv (.int x) (.int y) = decide (x = y) := by rw [PyData.eqv]; exact beq_int x y
mutual
theorem eqv_encS : ∀ s t : Stump, PyData.eqv (encS s) (encS t) = true ↔ s = t
  | .opn, .opn => by simp [encS, PyData.eqv, PyData.eqvAll]
  | .opn, .put n m ps => by simp [encS, PyData.eqv, PyData.eqvAll]
  | .put n m ps, .opn => by simp [encS, PyData.eqv, PyData.eqvAll]
  | .put n m ps, .put n' m' ps' => by
    have h := eqv_encSs ps ps'
    simp only [encS, PyData.eqv, PyData.eqvAll, Bool.and_true, Bool.and_eq_true, beq_iff_eq, Stump.put.injEq, true_and, h]
theorem eqv_encSs : ∀ s t : List Stump, PyData.eqvAll (encSs s) (encSs t) = true ↔ s = t
  | [], [] => by simp [encSs, PyData.eqvAll]
  | [], _ :: _ => by simp [encSs, PyData.eqvAll]
  | _ :: _, [] => by simp [encSs, PyData.eqvAll]
  | s :: ss, t :: ts => by
    have h1 := eqv_encS s t
    have h2 := eqv_encSs ss ts
    simp only [encSs, PyData.eqvAll, Bool.and_eq_true, h1, h2, List.cons.injEq]
end
theorem eqvAll_nat : ∀ p q : List Nat, PyData.eqvAll (p.map encNat) (q.map encNat) = true ↔ p = q
  | [], [] => by simp [PyData.eqvAll]
  | [], _ :: _ => by simp [PyData.eqvAll]
  | _ :: _, [] => by simp [PyData.eqvAll]
  | a :: p, b :: q => by
    have h2 := eqvAll_nat p q
    simp only [List.map_cons, PyData.eqvAll, Bool.and_eq_true, h2, List.cons.injEq, encNat, PyData.eqv, beq_iff_eq, Int.natCast_inj]
theorem eqv_encP (p q : List Nat) : PyData.eqv (encP p) (encP q) = true ↔ p = q := by
  unfold encP
  rw [PyData.eqv]
  exact eqvAll_nat p q
theorem eqv_encL (p q : Label) : PyData.eqv (encL p) (encL q) = true ↔ p = q := by
  obtain ⟨a, b, c⟩ := p
  obtain ⟨a', b', c'⟩ := q
  simp only [encL, PyData.eqv, PyData.eqvAll, Bool.and_true, Bool.and_eq_true, beq_iff_eq, Prod.mk.injEq, Int.natCast_inj]

/-! ### what may be compared -/
theorem shaped_iff (d : PyData) : SeqAt.shaped d = true ↔ d.canLay0 = true ∧ d.depth ≤ 64 := by
  unfold SeqAt.shaped
  rw [Bool.and_eq_true, decide_eq_true_eq]
mutual
theorem encS_lay : ∀ s : Stump, s.ok → (encS s).canLay0 = true ∧ (encS s).depth ≤ 2 * s.deep
  | .opn, _ => by
    refine ⟨?_, ?_⟩
    · simp only [encS, PyData.canLay0, PyData.canLayAll0, strOk_open, Bool.and_true]
    · simp only [encS, PyData.depth, PyData.depthAll, Stump.deep]; omega
  | .put n m ps, h => by
    obtain ⟨h1, h2, h3⟩ := h
    obtain ⟨q1, q2⟩ := encSs_lay ps h3
    refine ⟨?_, ?_⟩
    · simp only [encS, PyData.canLay0, PyData.canLayAll0, strOk_put, h1, q1, Bool.and_true]
    · simp only [encS, PyData.depth, PyData.depthAll, Stump.deep]; omega
theorem encSs_lay : ∀ s : List Stump, Stump.oks s → PyData.canLayAll0 (encSs s) = true ∧ PyData.depthAll (encSs s) ≤ 2 * Stump.deeps s
  | [], _ => by simp [encSs, PyData.canLayAll0, PyData.depthAll]
  | s :: ss, h => by
    obtain ⟨h1, h2⟩ := h
    obtain ⟨q1, q2⟩ := encS_lay s h1
    obtain ⟨q3, q4⟩ := encSs_lay ss h2
    refine ⟨?_, ?_⟩
    · simp only [encSs, PyData.canLayAll0, q1, q3, Bool.and_true]
    · simp only [encSs, PyData.depthAll, Stump.deeps]; omega
end
theorem shaped_S {s : Stump} (h : s.ok) (hd : s.deep ≤ 32) : SeqAt.shaped (encS s) = true := by
  obtain ⟨h1, h2⟩ := encS_lay s h
  exact (shaped_iff _).mpr ⟨h1, by omega⟩
theorem shaped_Ss {ss : List Stump} (h : Stump.oks ss) (hd : Stump.deeps ss ≤ 30) : SeqAt.shaped (.list (encSs ss)) = true := by
  obtain ⟨h1, h2⟩ := encSs_lay ss h
  refine (shaped_iff _).mpr ⟨?_, ?_⟩
  · rw [PyData.canLay0]; exact h1
  · rw [PyData.depth]; omega
theorem canLay_nats : ∀ p : List Nat, PyData.canLayAll0 (p.map encNat) = true ∧ PyData.depthAll (p.map encNat) = 0
  | [] => by simp [PyData.canLayAll0, PyData.depthAll]
  | a :: p => by
    obtain ⟨h1, h2⟩ := canLay_nats p
    simp only [List.map_cons, PyData.canLayAll0, PyData.depthAll, encNat, PyData.canLay0, PyData.depth, h1, h2]
    simp
theorem shaped_P (p : List Nat) : SeqAt.shaped (encP p) = true := by
  obtain ⟨h1, h2⟩ := canLay_nats p
  refine (shaped_iff _).mpr ⟨?_, ?_⟩
  · unfold encP; rw [PyData.canLay0]; exact h1
  · unfold encP; rw [PyData.depth, h2]; omega
theorem canLay_Ps : ∀ ps : List (List Nat), PyData.canLayAll0 (ps.map encP) = true ∧ PyData.depthAll (ps.map encP) ≤ 1
  | [] => by simp [PyData.canLayAll0, PyData.depthAll]
  | a :: ps => by
    obtain ⟨h1, h2⟩ := canLay_Ps ps
    obtain ⟨h3, h4⟩ := canLay_nats a
    refine ⟨?_, ?_⟩
    · simp only [List.map_cons, PyData.canLayAll0, encP, PyData.canLay0, h3, h1, Bool.and_true]
    · simp only [List.map_cons, PyData.depthAll, encP, PyData.depth, h4]; omega
theorem shaped_Ps (ps : List (List Nat)) : SeqAt.shaped (.list (ps.map encP)) = true := by
  obtain ⟨h1, h2⟩ := canLay_Ps ps
  refine (shaped_iff _).mpr ⟨?_, ?_⟩
  · rw [PyData.canLay0]; exact h1
  · rw [PyData.depth]; omega
theorem shaped_L {l : Label} (h : PyData.strOk l.1 = true) : SeqAt.shaped (encL l) = true := by
  refine (shaped_iff _).mpr ⟨?_, ?_⟩
  · simp only [encL, PyData.canLay0, PyData.canLayAll0, h, Bool.and_true]
  · simp only [encL, PyData.depth, PyData.depthAll]; omega
end TM

set_option Elab.async false
set_option linter.all false
set_option maxRecDepth 100000
set_option maxHeartbeats 1000000
/-! Plain mathematics: what the program reckons. -/
namespace TM
open PySem
mutual
def met : Stump → Stump → Stump
  | .opn, _ => .opn
  | .put _ _ _, .opn => .opn
  | .put n m ps, .put n' m' ps' => if n = n' ∧ m = m' ∧ ps.length = ps'.length then .put n m (mets ps ps') else .opn
def mets : List Stump → List Stump → List Stump
  | [], _ => []
  | _ :: _, [] => []
  | p :: ps, q :: qs => met p q :: mets ps qs
end
theorem mets_len : ∀ {ps qs : List Stump}, ps.length = qs.length → (mets ps qs).length = ps.length
  | [], _, _ => rfl
  | _ :: _, [], h => by simp at h
  | p :: ps, q :: qs, h => by
    show (mets ps qs).length + 1 = ps.length + 1
    rw [mets_len (by simpa using h)]
theorem mets_get : ∀ {ps qs : List Stump} {i : Nat} {p q : Stump}, ps[i]? = some p → qs[i]? = some q → (mets ps qs)[i]? = some (met p q)
  | [], _, _, _, _, h, _ => by simp at h
  | _ :: _, [], _, _, _, _, h => by simp at h
  | p :: ps, q :: qs, 0, _, _, h, h' => by simp at h h'; subst h h'; rfl
  | p :: ps, q :: qs, i + 1, _, _, h, h' => by
    show (mets ps qs)[i]? = _
    exact mets_get (by simpa using h) (by simpa using h')
def metOf : List Stump → Stump
  | [] => .opn
  | s :: ss => ss.foldl met s
mutual
def stumpIn (S : List Stump) : Term → Stump
  | .call m _ => S.getD m .opn
  | .put n k a ps => if k then .opn else .put n a (stumpIns S ps)
def stumpIns (S : List Stump) : List Term → List Stump
  | [] => []
  | t :: ts => stumpIn S t :: stumpIns S ts
end
theorem stumpIns_map (S : List Stump) : ∀ ts, stumpIns S ts = ts.map (stumpIn S)
  | [] => rfl
  | t :: ts => by rw [stumpIns, stumpIns_map S ts]; rfl
/-! calls of a term -/
mutual
def Term.calls (Q : Nat → Nat → Prop) : Term → Prop
  | .call m b => Q m b
  | .put _ _ _ ps => Term.callss Q ps
def Term.callss (Q : Nat → Nat → Prop) : List Term → Prop
  | [] => True
  | t :: ts => t.calls Q ∧ Term.callss Q ts
end
theorem Term.callss_mem {Q : Nat → Nat → Prop} : ∀ {ts : List Term}, Term.callss Q ts → ∀ t ∈ ts, t.calls Q
  | [], _, _, h => by cases h
  | q :: ts, h, t, ht => by
    rcases List.mem_cons.mp ht with rfl | ht
    · exact h.1
    · exact Term.callss_mem h.2 t ht
theorem Term.callss_of {Q : Nat → Nat → Prop} : ∀ {ts : List Term}, (∀ t ∈ ts, t.calls Q) → Term.callss Q ts
  | [], _ => trivial
  | q :: ts, h => ⟨h q List.mem_cons_self, Term.callss_of fun t ht => h t (List.mem_cons_of_mem _ ht)⟩
mutual
theorem Term.calls_imp {Q Q' : Nat → Nat → Prop} (f : ∀ m b, Q m b → Q' m b) : ∀ t : Term, t.calls Q → t.calls Q'
  | .call m b, h => f m b h
  | .put _ _ _ ps, h => Term.callss_imp f ps h
theorem Term.callss_imp {Q Q' : Nat → Nat → Prop} (f : ∀ m b, Q m b → Q' m b) : ∀ t : List Term, Term.callss Q t → Term.callss Q' t
  | [], _ => trivial
  | t :: ts, h => ⟨Term.calls_imp f t h.1, Term.callss_imp f ts h.2⟩
end
/-! woods -/
def rowsOf : Wood → Str → List Row
  | [], _ => []
  | (told, rows) :: w, k => if told = k then rows else rowsOf w k
def isBare (r : Row) : Bool := r.2.isEmpty
def leafOf (w : Wood) (k : Str) : Tree := .node ((((rowsOf w k).filter isBare).map (·.1)).headD ⟨#[]⟩) 0 []
def rowNo : List Row → Str → Option Nat
  | [], _ => none
  | r :: rs, n => if r.1 = n then some 0 else (rowNo rs n).map (· + 1)
def bares (rows : List Row) (rules : List Term) : List Stump := ((rows.zip rules).filter fun p => isBare p.1).map fun p => stumpIn [] p.2
def first (T : Turning) : List Stump := T.modes.map fun m => metOf (bares (rowsOf T.wood m.1) m.2)
def next (T : Turning) (S : List Stump) : List Stump := T.modes.map fun m => metOf (m.2.map (stumpIn S))
def lev (T : Turning) : Nat → List Stump
  | 0 => first T
  | i + 1 => next T (lev T i)
mutual
def opensL : Stump → List (List Nat)
  | .opn => [[]]
  | .put _ _ ps => opensLs 0 ps
def opensLs (k : Nat) : List Stump → List (List Nat)
  | [] => []
  | p :: ps => (opensL p).map (k :: ·) ++ opensLs (k + 1) ps
end
def stumpAt : Stump → List Nat → Option Stump
  | s, [] => some s
  | .opn, _ :: _ => none
  | .put _ _ ps, k :: r => match ps[k]? with
    | some p => stumpAt p r
    | none => none
def ruleOf (T : Turning) (m : Nat) (n : Str) : Option Term := match T.modes[m]? with
  | some md => match rowNo (rowsOf T.wood md.1) n with
    | some k => md.2[k]?
    | none => none
  | none => none
/-! what comes out -/
mutual
def inst (mark : Int) (fs : List (Nat → Tree)) : Term → Tree
  | .call m b => match fs[b]? with
    | some f => f m
    | none => default
  | .put n k a ps => .node n (a + mark * (if k then 1 else 0)) (insts mark fs ps)
def insts (mark : Int) (fs : List (Nat → Tree)) : List Term → List Tree
  | [] => []
  | t :: ts => inst mark fs t :: insts mark fs ts
end
theorem insts_map (mark : Int) (fs : List (Nat → Tree)) : ∀ ts, insts mark fs ts = ts.map (inst mark fs)
  | [] => rfl
  | t :: ts => by rw [insts, insts_map mark fs ts]; rfl
mutual
def out (T : Turning) : Tree → Nat → Tree
  | .node n mark bs, m => match ruleOf T m n with
    | some t => inst mark (outs T bs) t
    | none => default
def outs (T : Turning) : List Tree → List (Nat → Tree)
  | [] => []
  | b :: bs => (fun m => out T b m) :: outs T bs
end
theorem outs_map (T : Turning) : ∀ bs, outs T bs = bs.map fun b m => out T b m
  | [] => rfl
  | b :: bs => by rw [outs, outs_map T bs]; rfl
def labelAt : Tree → List Nat → Option Label
  | .node n m bs, [] => some (n, m, bs.length)
  | .node _ _ bs, k :: r => match bs[k]? with
    | some b => labelAt b r
    | none => none
mutual
def begins : Stump → Tree → Bool
  | .opn, _ => true
  | .put n m ps, .node n' m' bs => decide (n = n' ∧ m = m' ∧ ps.length = bs.length) && beginss ps bs
def beginss : List Stump → List Tree → Bool
  | [], _ => true
  | _ :: _, [] => true
  | p :: ps, b :: bs => begins p b && beginss ps bs
end
mutual
def ofKind (w : Wood) : Tree → Str → Prop
  | .node n _ bs, k => ∃ ks, (n, ks) ∈ rowsOf w k ∧ ks.length = bs.length ∧ ofKinds w bs ks
def ofKinds (w : Wood) : List Tree → List Str → Prop
  | [], _ => True
  | _ :: _, [] => True
  | b :: bs, k :: ks => ofKind w b k ∧ ofKinds w bs ks
end
def kinds (w : Wood) : List Str := w.map (·.1)
structure GoodWood (w : Wood) : Prop where
  few : w.length ≤ 3 ∧ w ≠ []
  nm : ∀ k ∈ kinds w, PyData.strOk k = true
  bare : ∀ k ∈ kinds w, ∃ r ∈ rowsOf w k, r.2 = []
  nd : ∀ k ∈ kinds w, ((rowsOf w k).map (·.1)).Nodup
  len : ∀ k ∈ kinds w, (rowsOf w k).length ≤ 3
  row : ∀ k ∈ kinds w, ∀ r ∈ rowsOf w k, PyData.strOk r.1 = true ∧ r.2.length ≤ 4 ∧ ∀ b ∈ r.2, b ∈ kinds w
/-- a call of mode m on branch b fits -/
def fits (ms : List Mode) (ks : List Str) (m b : Nat) : Prop := ∃ md, ms[m]? = some md ∧ ks[b]? = some md.1
structure RuleOk (ms : List Mode) (ks : List Str) (t : Term) : Prop where
  ok : t.ok
  deep : t.deep ≤ 3
  puts : t.puts ≤ 9
  calls : t.calls (fits ms ks)
structure WF (T : Turning) : Prop where
  wood : GoodWood T.wood
  few : T.modes.length ≤ 4
  kind : ∀ md ∈ T.modes, md.1 ∈ kinds T.wood
  len : ∀ md ∈ T.modes, md.2.length = (rowsOf T.wood md.1).length
  rule : ∀ md ∈ T.modes, ∀ (i : Nat) r t, (rowsOf T.wood md.1)[i]? = some r → md.2[i]? = some t → RuleOk T.modes r.2 t
end TM
namespace TM
open PySem
theorem Stump.deep_pos : ∀ s : Stump, 1 ≤ s.deep
  | .opn => Nat.le_refl _
  | .put _ _ ps => by show 1 ≤ Stump.deeps ps + 1; omega
theorem Term.deep_pos : ∀ s : Term, 1 ≤ s.deep
  | .call _ _ => Nat.le_refl _
  | .put _ _ _ ps => by show 1 ≤ Term.deeps ps + 1; omega
mutual
theorem met_ok : ∀ a b : Stump, a.ok → (met a b).ok ∧ (met a b).deep ≤ a.deep
  | .opn, _, h => by rw [met]; exact ⟨trivial, Nat.le_refl _⟩
  | .put n m ps, .opn, h => by rw [met]; exact ⟨trivial, Stump.deep_pos _⟩
  | .put n m ps, .put n' m' ps', h => by
    rw [met]
    by_cases c : n = n' ∧ m = m' ∧ ps.length = ps'.length
    · rw [if_pos c]
      obtain ⟨h1, h2⟩ := mets_ok ps ps' h.2.2
      refine ⟨⟨h.1, by rw [mets_len c.2.2]; exact h.2.1, h1⟩, ?_⟩
      show Stump.deeps (mets ps ps') + 1 ≤ Stump.deeps ps + 1
      omega
    · rw [if_neg c]; exact ⟨trivial, Stump.deep_pos _⟩
theorem mets_ok : ∀ a b : List Stump, Stump.oks a → Stump.oks (mets a b) ∧ Stump.deeps (mets a b) ≤ Stump.deeps a
  | [], _, _ => by rw [mets]; exact ⟨trivial, Nat.le_refl _⟩
  | _ :: _, [], _ => by rw [mets]; exact ⟨trivial, Nat.zero_le _⟩
  | p :: ps, q :: qs, h => by
    rw [mets]
    obtain ⟨h1, h2⟩ := met_ok p q h.1
    obtain ⟨h3, h4⟩ := mets_ok ps qs h.2
    refine ⟨⟨h1, h3⟩, ?_⟩
    show max (met p q).deep (Stump.deeps (mets ps qs)) ≤ max p.deep (Stump.deeps ps)
    omega
end
theorem foldl_met_ok : ∀ (l : List Stump) (a : Stump), a.ok → (l.foldl met a).ok ∧ (l.foldl met a).deep ≤ a.deep
  | [], a, h => ⟨h, Nat.le_refl _⟩
  | b :: l, a, h => by
    obtain ⟨h1, h2⟩ := met_ok a b h
    obtain ⟨h3, h4⟩ := foldl_met_ok l (met a b) h1
    exact ⟨h3, Nat.le_trans h4 h2⟩
theorem metOf_ok {l : List Stump} {D : Nat} (h : ∀ s ∈ l, s.ok ∧ s.deep ≤ D) (hn : l ≠ []) : (metOf l).ok ∧ (metOf l).deep ≤ D := by
  cases l with
  | nil => exact absurd rfl hn
  | cons a l =>
    obtain ⟨h1, h2⟩ := h a List.mem_cons_self
    obtain ⟨h3, h4⟩ := foldl_met_ok l a h1
    exact ⟨h3, Nat.le_trans h4 h2⟩
end TM
namespace TM
open PySem
theorem encSs_app (a b : List Stump) : encSs (a ++ b) = encSs a ++ encSs b := by rw [encSs_map, encSs_map, encSs_map, List.map_append]
theorem encTs_app (a b : List Term) : encTs (a ++ b) = encTs a ++ encTs b := by rw [encTs_map, encTs_map, encTs_map, List.map_append]
theorem encRs_app (a b : List Tree) : encRs (a ++ b) = encRs a ++ encRs b := by rw [encRs_map, encRs_map, encRs_map, List.map_append]
end TM

set_option Elab.async false
set_option linter.all false
set_option maxRecDepth 100000
set_option maxHeartbeats 1000000
/-! Plain mathematics: the order of stumps. -/
namespace TM
open PySem
mutual
inductive Le : Stump → Stump → Prop
  | opn (s : Stump) : Le .opn s
  | put {n : Str} {m : Int} {ps qs : List Stump} : Les ps qs → Le (.put n m ps) (.put n m qs)
inductive Les : List Stump → List Stump → Prop
  | nil : Les [] []
  | cons {p q : Stump} {ps qs : List Stump} : Le p q → Les ps qs → Les (p :: ps) (q :: qs)
end
mutual
theorem Le.refl : ∀ s : Stump, Le s s
  | .opn => .opn _
  | .put _ _ ps => .put (Les.refl ps)
theorem Les.refl : ∀ s : List Stump, Les s s
  | [] => .nil
  | p :: ps => .cons (Le.refl p) (Les.refl ps)
end
mutual
theorem Le.trans : ∀ {a b c : Stump}, Le a b → Le b c → Le a c
  | .opn, _, _, _, _ => .opn _
  | .put _ _ _, _, _, .put h, .put k => .put (Les.trans h k)
theorem Les.trans : ∀ {a b c : List Stump}, Les a b → Les b c → Les a c
  | [], _, _, .nil, .nil => .nil
  | _ :: _, _, _, .cons h t, .cons h' t' => .cons (Le.trans h h') (Les.trans t t')
end
mutual
theorem met_le_l : ∀ a b : Stump, Le (met a b) a
  | .opn, _ => by rw [met]; exact .opn _
  | .put n m ps, .opn => by rw [met]; exact .opn _
  | .put n m ps, .put n' m' ps' => by
    rw [met]
    by_cases c : n = n' ∧ m = m' ∧ ps.length = ps'.length
    · rw [if_pos c]; exact .put (mets_le_l ps ps' c.2.2)
    · rw [if_neg c]; exact .opn _
theorem mets_le_l : ∀ a b : List Stump, a.length = b.length → Les (mets a b) a
  | [], _, _ => by rw [mets]; exact .nil
  | _ :: _, [], h => by simp at h
  | p :: ps, q :: qs, h => by rw [mets]; exact .cons (met_le_l p q) (mets_le_l ps qs (by simpa using h))
end
mutual
theorem met_le_r : ∀ a b : Stump, Le (met a b) b
  | .opn, _ => by rw [met]; exact .opn _
  | .put n m ps, .opn => by rw [met]; exact .opn _
  | .put n m ps, .put n' m' ps' => by
    rw [met]
    by_cases c : n = n' ∧ m = m' ∧ ps.length = ps'.length
    · rw [if_pos c]
      obtain ⟨rfl, rfl, h⟩ := c
      exact .put (mets_le_r ps ps' h)
    · rw [if_neg c]; exact .opn _
theorem mets_le_r : ∀ a b : List Stump, a.length = b.length → Les (mets a b) b
  | [], [], _ => by rw [mets]; exact .nil
  | [], _ :: _, h => by simp at h
  | _ :: _, [], h => by simp at h
  | p :: ps, q :: qs, h => by rw [mets]; exact .cons (met_le_r p q) (mets_le_r ps qs (by simpa using h))
end
theorem Les.len : ∀ {a b : List Stump}, Les a b → a.length = b.length
  | [], _, .nil => rfl
  | _ :: _, _, .cons _ t => by simp [Les.len t]
mutual
theorem le_met : ∀ {c a b : Stump}, Le c a → Le c b → Le c (met a b)
  | .opn, _, _, _, _ => .opn _
  | .put n m ps, _, _, .put h, .put k => by
    rw [met, if_pos ⟨rfl, rfl, h.len.symm.trans k.len⟩]
    exact .put (les_mets h k)
theorem les_mets : ∀ {c a b : List Stump}, Les c a → Les c b → Les c (mets a b)
  | [], _, _, .nil, .nil => by rw [mets]; exact .nil
  | _ :: _, _, _, .cons h t, .cons h' t' => by rw [mets]; exact .cons (le_met h h') (les_mets t t')
end
mutual
theorem Le.deep_le : ∀ {a b : Stump}, Le a b → a.deep ≤ b.deep
  | .opn, b, _ => Stump.deep_pos b
  | .put _ _ _, _, .put h => by have := Les.deep_le h; simp only [Stump.deep]; omega
theorem Les.deep_le : ∀ {a b : List Stump}, Les a b → Stump.deeps a ≤ Stump.deeps b
  | [], _, .nil => Nat.le_refl _
  | _ :: _, _, .cons h t => by
    have h1 := Le.deep_le h
    have h2 := Les.deep_le t
    simp only [Stump.deeps]; omega
end
mutual
theorem Le.okl : ∀ {a b : Stump}, Le a b → b.ok → a.ok
  | .opn, b, _, _ => trivial
  | .put _ _ _, _, .put h, k => ⟨k.1, by rw [h.len]; exact k.2.1, Les.okl h k.2.2⟩
theorem Les.okl : ∀ {a b : List Stump}, Les a b → Stump.oks b → Stump.oks a
  | [], _, .nil, _ => trivial
  | _ :: _, _, .cons h t, k => ⟨Le.okl h k.1, Les.okl t k.2⟩
end
mutual
theorem Le.puts_le : ∀ {a b : Stump}, Le a b → a.puts ≤ b.puts ∧ (a.puts = b.puts → a = b)
  | .opn, .opn, _ => ⟨Nat.le_refl _, fun _ => rfl⟩
  | .opn, .put _ _ _, _ => ⟨Nat.zero_le _, fun h => by simp only [Stump.puts] at h; omega⟩
  | .put _ _ _, _, .put h => by
    obtain ⟨h1, h2⟩ := Les.puts_le h
    refine ⟨by simp only [Stump.puts]; omega, fun e => ?_⟩
    simp only [Stump.puts] at e
    rw [h2 (by omega)]
theorem Les.puts_le : ∀ {a b : List Stump}, Les a b → Stump.putss a ≤ Stump.putss b ∧ (Stump.putss a = Stump.putss b → a = b)
  | [], _, .nil => ⟨Nat.le_refl _, fun _ => rfl⟩
  | _ :: _, _, .cons h t => by
    obtain ⟨h1, h2⟩ := Le.puts_le h
    obtain ⟨h3, h4⟩ := Les.puts_le t
    refine ⟨by simp only [Stump.putss]; omega, fun e => ?_⟩
    simp only [Stump.putss] at e
    rw [h2 (by omega), h4 (by omega)]
end
mutual
theorem Le.begins_of : ∀ {a b : Stump} {t : Tree}, Le a b → begins b t = true → begins a t = true
  | .opn, _, _, _, _ => by rw [begins]
  | .put n m ps, _, .node n' m' bs, .put h, k => by
    rw [begins, Bool.and_eq_true, decide_eq_true_eq] at k ⊢
    exact ⟨⟨k.1.1, k.1.2.1, by rw [h.len]; exact k.1.2.2⟩, Les.begins_of h k.2⟩
theorem Les.begins_of : ∀ {a b : List Stump} {t : List Tree}, Les a b → beginss b t = true → beginss a t = true
  | [], _, _, _, _ => by rw [beginss]
  | _ :: _, _, [], .cons h t, k => by rw [beginss]
  | _ :: _, _, b :: bs, .cons h t, k => by
    rw [beginss, Bool.and_eq_true] at k ⊢
    exact ⟨Le.begins_of h k.1, Les.begins_of t k.2⟩
end
theorem foldl_met_le : ∀ (l : List Stump) (a : Stump), Le (l.foldl met a) a ∧ ∀ x ∈ l, Le (l.foldl met a) x
  | [], a => ⟨Le.refl a, fun _ h => by cases h⟩
  | b :: l, a => by
    obtain ⟨h1, h2⟩ := foldl_met_le l (met a b)
    refine ⟨h1.trans (met_le_l a b), fun x hx => ?_⟩
    rcases List.mem_cons.mp hx with rfl | hx
    · exact h1.trans (met_le_r a x)
    · exact h2 x hx
theorem metOf_le {l : List Stump} {x : Stump} (h : x ∈ l) : Le (metOf l) x := by
  cases l with
  | nil => cases h
  | cons a l =>
    obtain ⟨h1, h2⟩ := foldl_met_le l a
    rcases List.mem_cons.mp h with rfl | h
    · exact h1
    · exact h2 x h
theorem le_foldl : ∀ (l : List Stump) (a c : Stump), Le c a → (∀ x ∈ l, Le c x) → Le c (l.foldl met a)
  | [], _, _, h, _ => h
  | b :: l, a, c, h, k => le_foldl l (met a b) c (le_met h (k b List.mem_cons_self)) fun x hx => k x (List.mem_cons_of_mem _ hx)
theorem le_metOf {l : List Stump} {c : Stump} (hn : l ≠ []) (h : ∀ x ∈ l, Le c x) : Le c (metOf l) := by
  cases l with
  | nil => exact absurd rfl hn
  | cons a l => exact le_foldl l a c (h a List.mem_cons_self) fun x hx => h x (List.mem_cons_of_mem _ hx)

/-! ### lists of stumps -/
def LeL (S S' : List Stump) : Prop := S.length = S'.length ∧ ∀ (i : Nat) a b, S[i]? = some a → S'[i]? = some b → Le a b
theorem LeL.refl (S : List Stump) : LeL S S := ⟨rfl, fun i a b h h' => by rw [h] at h'; cases h'; exact Le.refl _⟩
theorem LeL.getD {S S' : List Stump} (h : LeL S S') (m : Nat) : Le (S.getD m .opn) (S'.getD m .opn) := by
  rw [List.getD_eq_getElem?_getD, List.getD_eq_getElem?_getD]
  cases e : S[m]? with
  | none => exact .opn _
  | some a =>
    have hm : m < S'.length := by rw [← h.1]; exact (List.getElem?_eq_some_iff.mp e).1
    rw [List.getElem?_eq_getElem hm]
    exact h.2 m a _ e (List.getElem?_eq_getElem hm)
mutual
theorem stumpIn_mono {S S' : List Stump} (h : LeL S S') : ∀ t : Term, Le (stumpIn S t) (stumpIn S' t)
  | .call m b => by rw [stumpIn, stumpIn]; exact h.getD m
  | .put n k a ps => by
    rw [stumpIn, stumpIn]
    cases k with
    | true => exact .opn _
    | false => exact .put (stumpIns_mono h ps)
theorem stumpIns_mono {S S' : List Stump} (h : LeL S S') : ∀ t : List Term, Les (stumpIns S t) (stumpIns S' t)
  | [] => by rw [stumpIns, stumpIns]; exact .nil
  | t :: ts => by rw [stumpIns, stumpIns]; exact .cons (stumpIn_mono h t) (stumpIns_mono h ts)
end
mutual
theorem stumpIn_ok {S : List Stump} {D : Nat} (h : ∀ s ∈ S, s.ok ∧ s.deep ≤ D) : ∀ t : Term, t.ok → (stumpIn S t).ok ∧ (stumpIn S t).deep ≤ t.deep + D
  | .call m b, _ => by
    rw [stumpIn, List.getD_eq_getElem?_getD]
    cases e : S[m]? with
    | none => exact ⟨trivial, by simp only [Option.getD_none, Stump.deep, Term.deep]; omega⟩
    | some a =>
      obtain ⟨h1, h2⟩ := h a (List.mem_of_getElem? e)
      exact ⟨h1, by simp only [Option.getD_some, Term.deep]; omega⟩
  | .put n k a ps, ok => by
    rw [stumpIn]
    cases k with
    | true => exact ⟨trivial, by simp only [if_true, Stump.deep, Term.deep]; omega⟩
    | false =>
      obtain ⟨h1, h2⟩ := stumpIns_ok h ps ok.2.2
      refine ⟨⟨ok.1, by rw [stumpIns_map, List.length_map]; exact ok.2.1, h1⟩, ?_⟩
      show Stump.deeps (stumpIns S ps) + 1 ≤ Term.deeps ps + 1 + D
      omega
theorem stumpIns_ok {S : List Stump} {D : Nat} (h : ∀ s ∈ S, s.ok ∧ s.deep ≤ D) : ∀ t : List Term, Term.oks t → Stump.oks (stumpIns S t) ∧ Stump.deeps (stumpIns S t) ≤ Term.deeps t + D
  | [], _ => by rw [stumpIns]; exact ⟨trivial, Nat.zero_le _⟩
  | t :: ts, ok => by
    rw [stumpIns]
    obtain ⟨h1, h2⟩ := stumpIn_ok h t ok.1
    obtain ⟨h3, h4⟩ := stumpIns_ok h ts ok.2
    refine ⟨⟨h1, h3⟩, ?_⟩
    simp only [Stump.deeps, Term.deeps]; omega
end
mutual
theorem stumpIn_puts : ∀ t : Term, (stumpIn [] t).puts ≤ t.puts
  | .call m b => by rw [stumpIn]; simp [Stump.puts]
  | .put n k a ps => by
    rw [stumpIn]
    cases k with
    | true => simp [Stump.puts]
    | false => have := stumpIns_puts ps; simp only [Bool.false_eq_true, if_false, Stump.puts, Term.puts]; omega
theorem stumpIns_puts : ∀ t : List Term, Stump.putss (stumpIns [] t) ≤ Term.putss t
  | [] => by rw [stumpIns]; exact Nat.le_refl _
  | t :: ts => by
    have h1 := stumpIn_puts t
    have h2 := stumpIns_puts ts
    rw [stumpIns]; simp only [Stump.putss, Term.putss]; omega
end
/-! a term without calls -/
mutual
theorem stumpIn_none {S S' : List Stump} : ∀ t : Term, t.calls (fun _ _ => False) → stumpIn S t = stumpIn S' t
  | .call m b, h => h.elim
  | .put n k a ps, h => by rw [stumpIn, stumpIn, stumpIns_none ps h]
theorem stumpIns_none {S S' : List Stump} : ∀ t : List Term, Term.callss (fun _ _ => False) t → stumpIns S t = stumpIns S' t
  | [], _ => by rw [stumpIns, stumpIns]
  | t :: ts, h => by rw [stumpIns, stumpIns, stumpIn_none t h.1, stumpIns_none ts h.2]
end
theorem RuleOk.nocall {ms : List Mode} {ks : List Str} {t : Term} (h : RuleOk ms ks t) (e : ks = []) : t.calls (fun _ _ => False) := by
  subst e
  exact Term.calls_imp (fun m b ⟨md, _, q⟩ => by simp at q) t h.calls

/-! ### a mode's rows -/
section
variable {T : Turning} (W : WF T)
include W
theorem WF.rowRule {md : Mode} (hm : md ∈ T.modes) {i : Nat} {r : TM.Row} (h : (rowsOf T.wood md.1)[i]? = some r) : ∃ t, md.2[i]? = some t ∧ RuleOk T.modes r.2 t := by
  have hi : i < md.2.length := by rw [W.len md hm]; exact (List.getElem?_eq_some_iff.mp h).1
  exact ⟨_, List.getElem?_eq_getElem hi, W.rule md hm i r _ h (List.getElem?_eq_getElem hi)⟩
theorem WF.ruleRow {md : Mode} (hm : md ∈ T.modes) {t : Term} (h : t ∈ md.2) : ∃ (i : Nat) (r : TM.Row), (rowsOf T.wood md.1)[i]? = some r ∧ md.2[i]? = some t ∧ RuleOk T.modes r.2 t := by
  obtain ⟨i, hi⟩ := List.mem_iff_getElem?.mp h
  have hl : i < (rowsOf T.wood md.1).length := by rw [← W.len md hm]; exact (List.getElem?_eq_some_iff.mp hi).1
  exact ⟨i, _, List.getElem?_eq_getElem hl, hi, W.rule md hm i _ t (List.getElem?_eq_getElem hl) hi⟩
theorem WF.bareRule {md : Mode} (hm : md ∈ T.modes) : ∃ (i : Nat) (r : TM.Row) (t : Term), (rowsOf T.wood md.1)[i]? = some r ∧ r.2 = [] ∧ md.2[i]? = some t ∧ RuleOk T.modes r.2 t := by
  obtain ⟨r, h1, h2⟩ := W.wood.bare md.1 (W.kind md hm)
  obtain ⟨i, hi⟩ := List.mem_iff_getElem?.mp h1
  obtain ⟨t, h3, h4⟩ := W.rowRule hm hi
  exact ⟨i, r, t, hi, h2, h3, h4⟩
theorem WF.mem_bares {md : Mode} (hm : md ∈ T.modes) {x : Stump} (h : x ∈ bares (rowsOf T.wood md.1) md.2) : ∃ (i : Nat) (r : TM.Row) (t : Term), (rowsOf T.wood md.1)[i]? = some r ∧ r.2 = [] ∧ md.2[i]? = some t ∧ RuleOk T.modes r.2 t ∧ x = stumpIn [] t := by
  unfold bares at h
  obtain ⟨p, hp, rfl⟩ := List.mem_map.mp h
  obtain ⟨hz, hb⟩ := List.mem_filter.mp hp
  obtain ⟨i, hi⟩ := List.mem_iff_getElem?.mp hz
  rw [List.getElem?_zip_eq_some] at hi
  have e : p.1.2 = [] := by unfold isBare at hb; exact List.isEmpty_iff.mp hb
  exact ⟨i, p.1, p.2, hi.1, e, hi.2, W.rule md hm i _ _ hi.1 hi.2, rfl⟩
theorem WF.bares_mem {md : Mode} (hm : md ∈ T.modes) {i : Nat} {r : TM.Row} {t : Term} (h1 : (rowsOf T.wood md.1)[i]? = some r) (h2 : r.2 = []) (h3 : md.2[i]? = some t) : stumpIn [] t ∈ bares (rowsOf T.wood md.1) md.2 := by
  unfold bares
  refine List.mem_map.mpr ⟨(r, t), List.mem_filter.mpr ⟨List.mem_iff_getElem?.mpr ⟨i, ?_⟩, by unfold isBare; rw [h2]; rfl⟩, rfl⟩
  rw [List.getElem?_zip_eq_some]
  exact ⟨h1, h3⟩
theorem WF.bares_ne {md : Mode} (hm : md ∈ T.modes) : bares (rowsOf T.wood md.1) md.2 ≠ [] := by
  obtain ⟨i, r, t, h1, h2, h3, _⟩ := W.bareRule hm
  exact List.ne_nil_of_mem (W.bares_mem hm h1 h2 h3)
theorem WF.rules_ne {md : Mode} (hm : md ∈ T.modes) : md.2 ≠ [] := by
  obtain ⟨i, r, t, h1, h2, h3, _⟩ := W.bareRule hm
  exact List.ne_nil_of_mem (List.mem_of_getElem? h3)
theorem next_le_first (S : List Stump) : LeL (next T S) (first T) := by
  refine ⟨by unfold next first; rw [List.length_map, List.length_map], fun i a b h1 h2 => ?_⟩
  unfold next at h1
  unfold first at h2
  rw [List.getElem?_map] at h1 h2
  obtain ⟨md, hm, rfl⟩ := Option.map_eq_some_iff.mp h1
  rw [hm] at h2
  cases h2
  have mm := List.mem_of_getElem? hm
  refine le_metOf (W.bares_ne mm) fun x hx => ?_
  obtain ⟨j, r, t, g1, g2, g3, g4, rfl⟩ := W.mem_bares mm hx
  rw [stumpIn_none (S := []) (S' := S) t (g4.nocall g2)]
  exact metOf_le (List.mem_map.mpr ⟨t, List.mem_of_getElem? g3, rfl⟩)
theorem next_mono {S S' : List Stump} (h : LeL S S') : LeL (next T S) (next T S') := by
  refine ⟨by unfold next; rw [List.length_map, List.length_map], fun i a b h1 h2 => ?_⟩
  unfold next at h1 h2
  rw [List.getElem?_map] at h1 h2
  obtain ⟨md, hm, rfl⟩ := Option.map_eq_some_iff.mp h1
  rw [hm] at h2
  cases h2
  have mm := List.mem_of_getElem? hm
  refine le_metOf (by simpa using W.rules_ne mm) fun x hx => ?_
  obtain ⟨t, ht, rfl⟩ := List.mem_map.mp hx
  exact (metOf_le (List.mem_map.mpr ⟨t, ht, rfl⟩)).trans (stumpIn_mono h t)
theorem lev_len (i : Nat) : (lev T i).length = T.modes.length := by
  cases i with
  | zero => show (first T).length = _; unfold first; rw [List.length_map]
  | succ i => show (next T _).length = _; unfold next; rw [List.length_map]
theorem lev_step : ∀ i, LeL (lev T (i + 1)) (lev T i)
  | 0 => next_le_first W _
  | i + 1 => next_mono W (lev_step i)
theorem lev_ok : ∀ i, ∀ s ∈ lev T i, s.ok ∧ s.deep ≤ 3
  | i, s, h => by
    -- each is below a bare rule's stump
    have key : ∀ md ∈ T.modes, ∀ x, (∀ (j : Nat) (r : TM.Row) (t : Term), (rowsOf T.wood md.1)[j]? = some r → r.2 = [] → md.2[j]? = some t → Le x (stumpIn [] t)) → x.ok ∧ x.deep ≤ 3 := by
      intro md hm x hx
      obtain ⟨j, r, t, h1, h2, h3, h4⟩ := W.bareRule hm
      have hl := hx j r t h1 h2 h3
      obtain ⟨q1, q2⟩ := stumpIn_ok (S := []) (D := 0) (fun _ z => by cases z) t h4.ok
      have := hl.deep_le
      have := h4.deep
      exact ⟨hl.okl q1, by omega⟩
    cases i with
    | zero =>
      have h' : s ∈ first T := h
      unfold first at h'
      obtain ⟨md, hm, rfl⟩ := List.mem_map.mp h'
      exact key md hm _ fun j r t h1 h2 h3 => metOf_le (W.bares_mem hm h1 h2 h3)
    | succ i =>
      have h' : s ∈ next T (lev T i) := h
      unfold next at h'
      obtain ⟨md, hm, rfl⟩ := List.mem_map.mp h'
      refine key md hm _ fun j r t h1 h2 h3 => ?_
      obtain ⟨t', h3', h4⟩ := W.rowRule hm h1
      rw [h3] at h3'; cases h3'
      rw [stumpIn_none (S := []) (S' := lev T i) t (h4.nocall h2)]
      exact metOf_le (List.mem_map.mpr ⟨t, List.mem_of_getElem? h3, rfl⟩)
/-! the number of steps -/
def tp (S : List Stump) : Nat := Stump.putss S
omit W in
theorem LeL.les : ∀ {S S' : List Stump}, LeL S S' → Les S S'
  | [], [], _ => .nil
  | [], _ :: _, h => by have := h.1; simp at this
  | _ :: _, [], h => by have := h.1; simp at this
  | a :: S, b :: S', h => .cons (h.2 0 a b rfl rfl) (LeL.les ⟨by have := h.1; simpa using this, fun i x y h1 h2 => h.2 (i + 1) x y (by simpa using h1) (by simpa using h2)⟩)
omit W in
theorem tp_le {S S' : List Stump} (h : LeL S S') : tp S ≤ tp S' ∧ (tp S = tp S' → S = S') := h.les.puts_le
omit W in
theorem putss_le : ∀ {S : List Stump} {k : Nat}, (∀ s ∈ S, s.puts ≤ k) → Stump.putss S ≤ S.length * k
  | [], k, _ => by simp [Stump.putss]
  | s :: S, k, h => by
    have h1 := h s List.mem_cons_self
    have h2 := putss_le fun x hx => h x (List.mem_cons_of_mem s hx)
    simp only [Stump.putss, List.length_cons, Nat.add_mul]; omega
theorem tp_first : tp (first T) ≤ 36 := by
  have h : ∀ s ∈ first T, s.puts ≤ 9 := by
    intro s hs
    unfold first at hs
    obtain ⟨md, hm, rfl⟩ := List.mem_map.mp hs
    obtain ⟨j, r, t, h1, h2, h3, h4⟩ := W.bareRule hm
    have q := (metOf_le (W.bares_mem hm h1 h2 h3)).puts_le.1
    have := stumpIn_puts t
    have := h4.puts
    omega
  have q := putss_le h
  have l : (first T).length ≤ 4 := by unfold first; rw [List.length_map]; exact W.few
  have : (first T).length * 9 ≤ 4 * 9 := Nat.mul_le_mul_right 9 l
  unfold tp; omega
theorem tp_steps : ∀ n, (∀ i, i < n → lev T (i + 1) ≠ lev T i) → tp (lev T n) + n ≤ 36
  | 0, _ => tp_first W
  | n + 1, h => by
    have ih := tp_steps n fun i hi => h i (by omega)
    obtain ⟨h1, h2⟩ := tp_le (lev_step W n)
    have hn := h n (by omega)
    have : tp (lev T (n + 1)) ≠ tp (lev T n) := fun e => hn (h2 e)
    omega
theorem lev_stays : ∃ N, N ≤ 36 ∧ lev T (N + 1) = lev T N := by
  by_cases h : ∀ i, i < 37 → lev T (i + 1) ≠ lev T i
  · have := tp_steps W 37 h; omega
  · have h' : ∃ i, i < 37 ∧ lev T (i + 1) = lev T i := by
      apply Classical.byContradiction
      intro hn
      exact h fun i hi e => hn ⟨i, hi, e⟩
    obtain ⟨i, hi, e⟩ := h'
    exact ⟨i, by omega, e⟩
end
end TM

set_option Elab.async false
set_option linter.all false
set_option maxRecDepth 100000
set_option maxHeartbeats 1000000
/-! Plain mathematics: places, labels, outcomes. -/
namespace TM
open PySem
theorem Les.get : ∀ {a b : List Stump} {i : Nat} {x : Stump}, Les a b → a[i]? = some x → ∃ y, b[i]? = some y ∧ Le x y
  | [], _, _, _, .nil, h => by simp at h
  | _ :: _, _, 0, _, .cons h t, e => by simp at e; subst e; exact ⟨_, rfl, h⟩
  | _ :: _, _, i + 1, _, .cons h t, e => by
    obtain ⟨y, q1, q2⟩ := Les.get t (i := i) (by simpa using e)
    exact ⟨y, by simpa using q1, q2⟩
theorem stumpAt_put {n : Str} {m : Int} {ps : List Stump} {k : Nat} {r : List Nat} {x : Stump} : stumpAt (.put n m ps) (k :: r) = some x ↔ ∃ p, ps[k]? = some p ∧ stumpAt p r = some x := by
  rw [stumpAt]
  cases e : ps[k]? with
  | none => simp
  | some p => simp
theorem le_at : ∀ {P : List Nat} {a b x : Stump}, Le a b → stumpAt a P = some x → ∃ y, stumpAt b P = some y ∧ Le x y
  | [], a, b, x, h, e => by
    have e' : a = x := by simpa [stumpAt] using e
    subst e'
    exact ⟨b, by simp [stumpAt], h⟩
  | k :: r, .opn, b, x, h, e => by simp [stumpAt] at e
  | k :: r, .put n m ps, _, x, .put (qs := qs) h, e => by
    obtain ⟨p, hp, hx⟩ := stumpAt_put.mp e
    obtain ⟨q, hq, hl⟩ := h.get hp
    obtain ⟨y, hy, hl2⟩ := le_at hl hx
    exact ⟨y, stumpAt_put.mpr ⟨q, hq, hy⟩, hl2⟩
/-- a put with this label -/
def HasLab (L : Label) (s : Stump) : Prop := ∃ ps, s = .put L.1 L.2.1 ps ∧ ps.length = L.2.2
theorem met_at : ∀ {P : List Nat} {a b y : Stump} {L : Label}, stumpAt (met a b) P = some y → (∃ x, stumpAt a P = some x ∧ HasLab L x) → (∃ x, stumpAt b P = some x ∧ HasLab L x) → HasLab L y
  | [], a, b, y, L, e, ⟨x, h1, ps, h2, h3⟩, ⟨x', h1', ps', h2', h3'⟩ => by
    have ea : a = x := by simpa [stumpAt] using h1
    have eb : b = x' := by simpa [stumpAt] using h1'
    have ey : met a b = y := by simpa [stumpAt] using e
    subst ea eb h2 h2'
    rw [met, if_pos ⟨rfl, rfl, h3.trans h3'.symm⟩] at ey
    subst ey
    exact ⟨_, rfl, by rw [mets_len (h3.trans h3'.symm)]; exact h3⟩
  | k :: r, .opn, b, y, L, e, _, _ => by rw [met] at e; simp [stumpAt] at e
  | k :: r, .put n m ps, .opn, y, L, e, _, _ => by rw [met] at e; simp [stumpAt] at e
  | k :: r, .put n m ps, .put n' m' ps', y, L, e, ⟨x, h1, hx⟩, ⟨x', h1', hx'⟩ => by
    rw [met] at e
    by_cases c : n = n' ∧ m = m' ∧ ps.length = ps'.length
    · rw [if_pos c] at e
      obtain ⟨p, hp, hy⟩ := stumpAt_put.mp e
      obtain ⟨p1, hp1, hy1⟩ := stumpAt_put.mp h1
      obtain ⟨p2, hp2, hy2⟩ := stumpAt_put.mp h1'
      rw [mets_get hp1 hp2] at hp
      cases hp
      exact met_at hy ⟨x, hy1, hx⟩ ⟨x', hy2, hx'⟩
    · rw [if_neg c] at e; simp [stumpAt] at e
theorem foldl_at : ∀ {l : List Stump} {a y : Stump} {P : List Nat} {L : Label}, stumpAt (l.foldl met a) P = some y → (∃ x, stumpAt a P = some x ∧ HasLab L x) → (∀ b ∈ l, ∃ x, stumpAt b P = some x ∧ HasLab L x) → HasLab L y
  | [], a, y, P, L, e, ⟨x, h1, h2⟩, _ => by
    have e' : stumpAt a P = some y := e
    rw [h1] at e'; cases e'; exact h2
  | b :: l, a, y, P, L, e, ha, hl => by
    have e' : stumpAt (l.foldl met (met a b)) P = some y := e
    obtain ⟨z, hz, _⟩ := le_at (foldl_met_le l (met a b)).1 e'
    exact foldl_at e' ⟨z, hz, met_at hz ha (hl b List.mem_cons_self)⟩ fun c hc => hl c (List.mem_cons_of_mem _ hc)
theorem metOf_at {l : List Stump} {y : Stump} {P : List Nat} {L : Label} (hn : l ≠ []) (e : stumpAt (metOf l) P = some y) (h : ∀ b ∈ l, ∃ x, stumpAt b P = some x ∧ HasLab L x) : HasLab L y := by
  cases l with
  | nil => exact absurd rfl hn
  | cons a l => exact foldl_at e (h a List.mem_cons_self) fun b hb => h b (List.mem_cons_of_mem _ hb)
/-! opens -/
theorem mem_opensLs : ∀ {ps : List Stump} {k : Nat} {P : List Nat}, P ∈ opensLs k ps ↔ ∃ i p r, ps[i]? = some p ∧ P = (k + i) :: r ∧ r ∈ opensL p
  | [], k, P => by simp [opensLs]
  | q :: ps, k, P => by
    rw [opensLs, List.mem_append, List.mem_map, mem_opensLs]
    constructor
    · rintro (⟨r, h1, rfl⟩ | ⟨i, p, r, h1, rfl, h3⟩)
      · exact ⟨0, q, r, rfl, rfl, h1⟩
      · exact ⟨i + 1, p, r, by simpa using h1, by congr 1; omega, h3⟩
    · rintro ⟨i, p, r, h1, rfl, h3⟩
      cases i with
      | zero => simp at h1; subst h1; exact .inl ⟨r, h3, rfl⟩
      | succ i => exact .inr ⟨i, p, r, by simpa using h1, by congr 1; omega, h3⟩
theorem mem_opens : ∀ {P : List Nat} {s : Stump}, P ∈ opensL s ↔ stumpAt s P = some .opn
  | [], .opn => by simp [opensL, stumpAt]
  | [], .put n m ps => by
    rw [opensL, mem_opensLs]
    simp [stumpAt]
  | k :: r, .opn => by simp [opensL, stumpAt]
  | k :: r, .put n m ps => by
    rw [opensL, mem_opensLs, stumpAt_put]
    constructor
    · rintro ⟨i, p, r', h1, h2, h3⟩
      have e1 : k = 0 + i := (List.cons.inj h2).1
      have e2 : r = r' := (List.cons.inj h2).2
      subst e2
      have e3 : k = i := by omega
      subst e3
      exact ⟨p, h1, mem_opens.mp h3⟩
    · rintro ⟨p, h1, h2⟩
      exact ⟨k, p, r, h1, by rw [Nat.zero_add], mem_opens.mpr h2⟩
/-! how many opens -/
mutual
def Stump.nodes : Stump → Nat
  | .opn => 1
  | .put _ _ ps => Stump.nodess ps + 1
def Stump.nodess : List Stump → Nat
  | [] => 0
  | p :: ps => p.nodes + Stump.nodess ps
end
theorem Stump.nodes_pos : ∀ s : Stump, 1 ≤ s.nodes
  | .opn => Nat.le_refl _
  | .put _ _ ps => by show 1 ≤ Stump.nodess ps + 1; omega
mutual
theorem opens_nodes : ∀ s : Stump, (opensL s).length ≤ s.nodes
  | .opn => by simp [opensL, Stump.nodes]
  | .put _ _ ps => by have := openss_nodes ps 0; rw [opensL, Stump.nodes]; omega
theorem openss_nodes : ∀ (s : List Stump) (k : Nat), (opensLs k s).length ≤ Stump.nodess s
  | [], _ => by simp [opensLs, Stump.nodess]
  | p :: ps, k => by
    have h1 := opens_nodes p
    have h2 := openss_nodes ps (k + 1)
    rw [opensLs, Stump.nodess, List.length_append, List.length_map]; omega
end
mutual
theorem Le.nodes_le : ∀ {a b : Stump}, Le a b → a.nodes ≤ b.nodes
  | .opn, b, _ => Stump.nodes_pos b
  | .put _ _ _, _, .put h => by have := Les.nodes_le h; simp only [Stump.nodes]; omega
theorem Les.nodes_le : ∀ {a b : List Stump}, Les a b → Stump.nodess a ≤ Stump.nodess b
  | [], _, .nil => Nat.le_refl _
  | _ :: _, _, .cons h t => by
    have h1 := Le.nodes_le h
    have h2 := Les.nodes_le t
    simp only [Stump.nodess]; omega
end
mutual
theorem stumpIn_nodes : ∀ t : Term, (stumpIn [] t).nodes ≤ t.puts
  | .call m b => by rw [stumpIn]; simp [Stump.nodes, Term.puts]
  | .put n k a ps => by
    rw [stumpIn]
    cases k with
    | true => simp [Stump.nodes, Term.puts]
    | false => have := stumpIns_nodes ps; simp only [Bool.false_eq_true, if_false, Stump.nodes, Term.puts]; omega
theorem stumpIns_nodes : ∀ t : List Term, Stump.nodess (stumpIns [] t) ≤ Term.putss t
  | [] => by rw [stumpIns]; exact Nat.le_refl _
  | t :: ts => by
    have h1 := stumpIn_nodes t
    have h2 := stumpIns_nodes ts
    rw [stumpIns]; simp only [Stump.nodess, Term.putss]; omega
end
/-- each common stump is below the stump of each bare rule -/
theorem lev_le_bare {T : Turning} (W : WF T) (i : Nat) {m : Nat} {md : Mode} {s : Stump} (hm : T.modes[m]? = some md) (hs : (lev T i)[m]? = some s) {j : Nat} {r : TM.Row} {t : Term} (h1 : (rowsOf T.wood md.1)[j]? = some r) (h2 : r.2 = []) (h3 : md.2[j]? = some t) : Le s (stumpIn [] t) := by
  have mm := List.mem_of_getElem? hm
  cases i with
  | zero =>
    have hs' : (first T)[m]? = some s := hs
    unfold first at hs'
    rw [List.getElem?_map, hm] at hs'
    cases hs'
    exact metOf_le (W.bares_mem mm h1 h2 h3)
  | succ i =>
    have hs' : (next T (lev T i))[m]? = some s := hs
    unfold next at hs'
    rw [List.getElem?_map, hm] at hs'
    cases hs'
    obtain ⟨t', h3', h4⟩ := W.rowRule mm h1
    rw [h3] at h3'; cases h3'
    rw [stumpIn_none (S := []) (S' := lev T i) t (h4.nocall h2)]
    exact metOf_le (List.mem_map.mpr ⟨t, List.mem_of_getElem? h3, rfl⟩)
theorem opens_few {T : Turning} (W : WF T) (i : Nat) {m : Nat} {s : Stump} (hs : (lev T i)[m]? = some s) : (opensL s).length ≤ 9 := by
  have hm : m < T.modes.length := by rw [← lev_len W i]; exact (List.getElem?_eq_some_iff.mp hs).1
  have hm' : T.modes[m]? = some T.modes[m] := List.getElem?_eq_getElem hm
  obtain ⟨j, r, t, h1, h2, h3, h4⟩ := W.bareRule (List.mem_of_getElem? hm')
  have q := (lev_le_bare W i hm' hs h1 h2 h3).nodes_le
  have := opens_nodes s
  have := stumpIn_nodes t
  have := h4.puts
  omega
/-! what stands in a rule at a place -/
def standsAt : Term → List Nat → Option (Term × List Nat)
  | t, [] => some (t, [])
  | .call m b, k :: r => some (.call m b, k :: r)
  | .put _ _ _ ps, k :: r => match ps[k]? with
    | some p => standsAt p r
    | none => none
theorem standsAt_put {n : Str} {kk : Bool} {a : Int} {ps : List Term} {k : Nat} {r : List Nat} {x : Term × List Nat} : standsAt (.put n kk a ps) (k :: r) = some x ↔ ∃ p, ps[k]? = some p ∧ standsAt p r = some x := by
  rw [standsAt]
  cases e : ps[k]? with
  | none => simp
  | some p => simp
theorem stumpIn_at {S : List Stump} : ∀ {P : List Nat} {t : Term} {x : Stump}, stumpAt (stumpIn S t) P = some x → ∃ here rest, standsAt t P = some (here, rest) ∧
    ((∃ m b, here = .call m b ∧ stumpAt (S.getD m .opn) rest = some x) ∨ (∃ n k a ps, here = .put n k a ps ∧ rest = [] ∧ x = stumpIn S here))
  | [], .call m b, x, e => ⟨.call m b, [], by simp [standsAt], .inl ⟨m, b, rfl, by rw [stumpIn] at e; exact e⟩⟩
  | [], .put n k a ps, x, e => ⟨.put n k a ps, [], by simp [standsAt], .inr ⟨n, k, a, ps, rfl, rfl, by simpa [stumpAt] using e.symm⟩⟩
  | q :: r, .call m b, x, e => ⟨.call m b, q :: r, by simp [standsAt], .inl ⟨m, b, rfl, by rw [stumpIn] at e; exact e⟩⟩
  | q :: r, .put n k a ps, x, e => by
    rw [stumpIn] at e
    cases k with
    | true => simp [stumpAt] at e
    | false =>
      have e' : stumpAt (.put n a (stumpIns S ps)) (q :: r) = some x := e
      obtain ⟨p, hp, hx⟩ := stumpAt_put.mp e'
      rw [stumpIns_map, List.getElem?_map] at hp
      obtain ⟨t, ht, rfl⟩ := Option.map_eq_some_iff.mp hp
      obtain ⟨here, rest, h1, h2⟩ := stumpIn_at hx
      exact ⟨here, rest, standsAt_put.mpr ⟨t, ht, h1⟩, h2⟩
theorem standsAt_mem {Q : Nat → Nat → Prop} : ∀ {P : List Nat} {t : Term} {here : Term} {rest : List Nat}, standsAt t P = some (here, rest) → t.ok → t.calls Q → here.ok ∧ here.calls Q
  | [], t, here, rest, h, ok, hc => by
    have : t = here := by simp [standsAt] at h; exact h.1
    subst this
    exact ⟨ok, hc⟩
  | q :: r, .call m b, here, rest, h, ok, hc => by
    have : Term.call m b = here := by simp [standsAt] at h; exact h.1
    subst this
    exact ⟨ok, hc⟩
  | q :: r, .put n k a ps, here, rest, h, ok, hc => by
    obtain ⟨p, hp, hx⟩ := standsAt_put.mp h
    have mp := List.mem_of_getElem? hp
    exact standsAt_mem hx (Term.oks_mem ok.2.2 p mp) (Term.callss_mem hc p mp)
/-! labels of outcomes -/
theorem labelAt_node {n : Str} {m : Int} {bs : List Tree} {k : Nat} {r : List Nat} {l : Label} : labelAt (.node n m bs) (k :: r) = some l ↔ ∃ b, bs[k]? = some b ∧ labelAt b r = some l := by
  rw [labelAt]
  cases e : bs[k]? with
  | none => simp
  | some p => simp
theorem label_stands {mark : Int} {fs : List (Nat → Tree)} : ∀ {P : List Nat} {t here : Term} {rest : List Nat}, standsAt t P = some (here, rest) → labelAt (inst mark fs t) P = labelAt (inst mark fs here) rest
  | [], t, here, rest, h => by
    simp [standsAt] at h
    obtain ⟨rfl, rfl⟩ := h
    rfl
  | q :: r, .call m b, here, rest, h => by
    simp [standsAt] at h
    obtain ⟨rfl, rfl⟩ := h
    rfl
  | q :: r, .put n k a ps, here, rest, h => by
    obtain ⟨p, hp, hx⟩ := standsAt_put.mp h
    rw [← label_stands hx, inst, labelAt, insts_map, List.getElem?_map, hp]
    rfl
theorem begins_at : ∀ {P : List Nat} {s : Stump} {t : Tree} {x : Stump}, begins s t = true → stumpAt s P = some x → ∃ l, labelAt t P = some l ∧ ∀ n m ps, x = .put n m ps → l = (n, m, ps.length)
  | [], s, .node n m bs, x, h, e => by
    refine ⟨(n, m, bs.length), by simp [labelAt], fun n' m' ps ex => ?_⟩
    have e' : s = x := by simpa [stumpAt] using e
    subst e' ex
    rw [begins, Bool.and_eq_true, decide_eq_true_eq] at h
    obtain ⟨⟨rfl, rfl, h3⟩, _⟩ := h
    rw [h3]
  | k :: r, .opn, t, x, h, e => by simp [stumpAt] at e
  | k :: r, .put n m ps, .node n' m' bs, x, h, e => by
    obtain ⟨p, hp, hx⟩ := stumpAt_put.mp e
    rw [begins, Bool.and_eq_true, decide_eq_true_eq] at h
    have key : ∀ {ps : List Stump} {bs : List Tree} {k : Nat} {p : Stump}, beginss ps bs = true → ps.length = bs.length → ps[k]? = some p → ∃ b, bs[k]? = some b ∧ begins p b = true := by
      intro ps
      induction ps with
      | nil => intro bs k p _ _ h; simp at h
      | cons q ps ih =>
        intro bs k p h1 h2 h3
        cases bs with
        | nil => simp at h2
        | cons b bs =>
          rw [beginss, Bool.and_eq_true] at h1
          cases k with
          | zero => simp at h3; subst h3; exact ⟨b, rfl, h1.1⟩
          | succ k => exact ih (bs := bs) (k := k) (p := p) h1.2 (by simpa using h2) (by simpa using h3)
    obtain ⟨b, hb, hbeg⟩ := key h.2 h.1.2.2 hp
    obtain ⟨l, h1, h2⟩ := begins_at hbeg hx
    exact ⟨l, labelAt_node.mpr ⟨b, hb, h1⟩, h2⟩
mutual
theorem begins_inst {S : List Stump} {mark : Int} {fs : List (Nat → Tree)} : ∀ t : Term, t.calls (fun m b => ∃ f s, fs[b]? = some f ∧ S[m]? = some s ∧ begins s (f m) = true) → begins (stumpIn S t) (inst mark fs t) = true
  | .call m b, ⟨f, s, h1, h2, h3⟩ => by
    rw [stumpIn, inst, List.getD_eq_getElem?_getD, h2, h1]
    exact h3
  | .put n k a ps, h => by
    rw [stumpIn, inst]
    cases k with
    | true => show begins .opn _ = true; rw [begins]
    | false =>
      show begins (.put n a (stumpIns S ps)) _ = true
      have hb := beginss_insts ps h (mark := mark)
      rw [begins, Bool.and_eq_true, decide_eq_true_eq]
      refine ⟨⟨rfl, ?_, by rw [stumpIns_map, insts_map, List.length_map, List.length_map]⟩, hb⟩
      show a = a + mark * 0
      omega
theorem beginss_insts {S : List Stump} {mark : Int} {fs : List (Nat → Tree)} : ∀ t : List Term, Term.callss (fun m b => ∃ f s, fs[b]? = some f ∧ S[m]? = some s ∧ begins s (f m) = true) t → beginss (stumpIns S t) (insts mark fs t) = true
  | [], _ => by rw [stumpIns, insts, beginss]
  | t :: ts, h => by
    rw [stumpIns, insts, beginss, Bool.and_eq_true]
    exact ⟨begins_inst t h.1, beginss_insts ts h.2⟩
end
/-! rules by names -/
theorem rowNo_nd : ∀ {rows : List TM.Row} {i : Nat} {r : TM.Row}, (rows.map (·.1)).Nodup → rows[i]? = some r → rowNo rows r.1 = some i
  | [], _, _, _, h => by simp at h
  | q :: rows, 0, r, _, h => by simp at h; subst h; rw [rowNo, if_pos rfl]
  | q :: rows, i + 1, r, nd, h => by
    rw [List.map_cons, List.nodup_cons] at nd
    have h' : rows[i]? = some r := by simpa using h
    have hne : ¬ q.1 = r.1 := fun e => nd.1 (List.mem_map.mpr ⟨r, List.mem_of_getElem? h', e.symm⟩)
    rw [rowNo, if_neg hne, rowNo_nd nd.2 h']
    rfl
theorem ruleOf_row {T : Turning} (W : WF T) {m : Nat} {md : Mode} (hm : T.modes[m]? = some md) {i : Nat} {r : TM.Row} {t : Term} (h1 : (rowsOf T.wood md.1)[i]? = some r) (h2 : md.2[i]? = some t) : ruleOf T m r.1 = some t := by
  unfold ruleOf
  rw [hm]
  show (match rowNo (rowsOf T.wood md.1) r.1 with | some k => md.2[k]? | none => none) = some t
  rw [rowNo_nd (W.wood.nd md.1 (W.kind md (List.mem_of_getElem? hm))) h1]
  exact h2
theorem ofKind_row {T : Turning} (W : WF T) {m : Nat} {md : Mode} (hm : T.modes[m]? = some md) {n : Str} {mark : Int} {bs : List Tree} (h : ofKind T.wood (.node n mark bs) md.1) :
    ∃ (i : Nat) (ks : List Str) (t : Term), (rowsOf T.wood md.1)[i]? = some (n, ks) ∧ md.2[i]? = some t ∧ ruleOf T m n = some t ∧ RuleOk T.modes ks t ∧ ks.length = bs.length ∧ ofKinds T.wood bs ks := by
  obtain ⟨ks, h1, h2, h3⟩ := h
  obtain ⟨i, hi⟩ := List.mem_iff_getElem?.mp h1
  obtain ⟨t, ht, hr⟩ := W.rowRule (List.mem_of_getElem? hm) hi
  exact ⟨i, ks, t, hi, ht, ruleOf_row W hm hi ht, hr, h2, h3⟩
theorem ofKinds_get {w : Wood} : ∀ {bs : List Tree} {ks : List Str} {i : Nat} {k : Str}, ofKinds w bs ks → ks.length = bs.length → ks[i]? = some k → ∃ b, bs[i]? = some b ∧ ofKind w b k
  | [], ks, i, k, _, hl, h => by
    have : ks = [] := List.eq_nil_of_length_eq_zero (by simpa using hl)
    subst this; simp at h
  | b :: bs, [], i, k, _, hl, h => by simp at h
  | b :: bs, q :: ks, 0, k, h, hl, e => by simp at e; subst e; exact ⟨b, rfl, h.1⟩
  | b :: bs, q :: ks, i + 1, k, h, hl, e => by
    obtain ⟨b', h1, h2⟩ := ofKinds_get h.2 (by simpa using hl) (i := i) (by simpa using e)
    exact ⟨b', by simpa using h1, h2⟩
theorem ofKinds_of {w : Wood} : ∀ {bs : List Tree} {ks : List Str}, (∀ (i : Nat) b k, bs[i]? = some b → ks[i]? = some k → ofKind w b k) → ofKinds w bs ks
  | [], _, _ => trivial
  | _ :: _, [], _ => trivial
  | b :: bs, k :: ks, h => ⟨h 0 b k rfl rfl, ofKinds_of fun i b' k' h1 h2 => h (i + 1) b' k' (by simpa using h1) (by simpa using h2)⟩
theorem out_rule {T : Turning} {n : Str} {mark : Int} {bs : List Tree} {m : Nat} {t : Term} (h : ruleOf T m n = some t) : out T (.node n mark bs) m = inst mark (outs T bs) t := by rw [out, h]
theorem outs_get {T : Turning} {bs : List Tree} {i : Nat} {b : Tree} (h : bs[i]? = some b) : (outs T bs)[i]? = some fun m => out T b m := by rw [outs_map, List.getElem?_map, h]; rfl
mutual
theorem begins_all {T : Turning} (W : WF T) {S : List Stump} (hS : next T S = S) : ∀ (t : Tree) (m : Nat) (md : Mode), T.modes[m]? = some md → ofKind T.wood t md.1 → ∃ s, S[m]? = some s ∧ begins s (out T t m) = true
  | .node n mark bs, m, md, hm, h => by
    obtain ⟨i, ks, t, h1, h2, h3, h4, h5, h6⟩ := ofKind_row W hm h
    have hs : S[m]? = some (metOf (md.2.map (stumpIn S))) := by
      rw [← hS]
      show (next T S)[m]? = _
      rw [hS]
      conv => lhs; rw [← hS]
      unfold next
      rw [List.getElem?_map, hm]
      rfl
    refine ⟨_, hs, ?_⟩
    rw [out_rule h3]
    refine (metOf_le (List.mem_map.mpr ⟨t, List.mem_of_getElem? h2, rfl⟩)).begins_of (begins_inst t ?_)
    refine Term.calls_imp (fun m' b ⟨md', g1, g2⟩ => ?_) t h4.calls
    have hall := begins_alls W hS bs
    obtain ⟨b', hb', hk⟩ := ofKinds_get h6 h5 g2
    obtain ⟨s, q1, q2⟩ := hall b' (List.mem_of_getElem? hb') m' md' g1 hk
    exact ⟨_, s, outs_get hb', q1, q2⟩
theorem begins_alls {T : Turning} (W : WF T) {S : List Stump} (hS : next T S = S) : ∀ (bs : List Tree), ∀ b ∈ bs, ∀ (m : Nat) (md : Mode), T.modes[m]? = some md → ofKind T.wood b md.1 → ∃ s, S[m]? = some s ∧ begins s (out T b m) = true
  | [], b, hb => by cases hb
  | c :: bs, b, hb => by
    intro m md hm hk
    rcases List.mem_cons.mp hb with e | hb
    · rw [e] at hk ⊢
      exact begins_all W hS c m md hm hk
    · exact begins_alls W hS bs b hb m md hm hk
end
end TM

set_option Elab.async false
set_option linter.all false
set_option maxRecDepth 100000
set_option maxHeartbeats 1000000
/-! Plain mathematics: trees that part. -/
namespace TM
open PySem
def grownT (w : Wood) (r : TM.Row) (mark : Int) (b : Nat) (o : Option Tree) : Tree := .node r.1 mark (match o with
  | none => r.2.map (leafOf w)
  | some t => (r.2.map (leafOf w)).set b t)
theorem leaf_row {w : Wood} {k : Str} (h : ∃ r ∈ rowsOf w k, r.2 = []) : ∃ (i : Nat) (n : Str), (rowsOf w k)[i]? = some (n, []) ∧ leafOf w k = .node n 0 [] := by
  obtain ⟨r, h1, h2⟩ := h
  have hm : r ∈ (rowsOf w k).filter isBare := List.mem_filter.mpr ⟨h1, by unfold isBare; rw [h2]; rfl⟩
  have hq : leafOf w k = .node ((((rowsOf w k).filter isBare).map (·.1)).headD ⟨#[]⟩) 0 [] := rfl
  cases hf : (rowsOf w k).filter isBare with
  | nil => rw [hf] at hm; cases hm
  | cons r0 rs =>
    rw [hf] at hq
    have m0 : r0 ∈ (rowsOf w k).filter isBare := by rw [hf]; exact List.mem_cons_self
    obtain ⟨g1, g2⟩ := List.mem_filter.mp m0
    obtain ⟨i, hi⟩ := List.mem_iff_getElem?.mp g1
    refine ⟨i, r0.1, ?_, hq⟩
    rw [hi]
    have e : r0.2 = [] := by unfold isBare at g2; exact List.isEmpty_iff.mp g2
    rw [← e]
theorem leaf_ofKind {w : Wood} {k : Str} (h : ∃ r ∈ rowsOf w k, r.2 = []) : ofKind w (leafOf w k) k := by
  obtain ⟨i, n, h1, h2⟩ := leaf_row h
  rw [h2]
  exact ⟨[], List.mem_of_getElem? h1, rfl, trivial⟩
theorem leaf_ok {w : Wood} {k : Str} (W : GoodWood w) (hk : k ∈ kinds w) : (leafOf w k).ok ∧ (leafOf w k).deep = 1 := by
  obtain ⟨i, n, h1, h2⟩ := leaf_row (W.bare k hk)
  rw [h2]
  exact ⟨⟨(W.row k hk _ (List.mem_of_getElem? h1)).1, Nat.zero_le _, trivial⟩, rfl⟩
/-- what a leaf comes to begins with each of the lists' stumps -/
theorem leaf_begins {T : Turning} (W : WF T) (i : Nat) {m : Nat} {md : Mode} {s : Stump} (hm : T.modes[m]? = some md) (hs : (lev T i)[m]? = some s) : begins s (out T (leafOf T.wood md.1) m) = true := by
  have mm := List.mem_of_getElem? hm
  obtain ⟨j, n, h1, h2⟩ := leaf_row (W.wood.bare md.1 (W.kind md mm))
  obtain ⟨t, h3, h4⟩ := W.rowRule mm h1
  have hr := ruleOf_row W hm h1 h3
  rw [h2, out_rule hr]
  refine (lev_le_bare W i hm hs h1 rfl h3).begins_of (begins_inst t ?_)
  exact Term.calls_imp (fun _ _ z => z.elim) t (h4.nocall rfl)
/-- a tree of the mode's kind whose outcome has another label than L at P -/
structure Unl (T : Turning) (m : Nat) (P : List Nat) (L : Label) (D : Nat) (t : Tree) : Prop where
  deep : t.deep ≤ D
  kind : ∃ md, T.modes[m]? = some md ∧ ofKind T.wood t md.1
  ok : t.ok
  lab : ∃ l, labelAt (out T t m) P = some l ∧ l ≠ L
theorem ofKinds_leaves {w : Wood} (W : GoodWood w) : ∀ {ks : List Str}, (∀ k ∈ ks, k ∈ kinds w) → ofKinds w (ks.map (leafOf w)) ks ∧ Tree.oks (ks.map (leafOf w))
  | [], _ => ⟨trivial, trivial⟩
  | k :: ks, h => by
    obtain ⟨h1, h2⟩ := ofKinds_leaves W fun x hx => h x (List.mem_cons_of_mem _ hx)
    have hk := h k List.mem_cons_self
    exact ⟨⟨leaf_ofKind (W.bare k hk), h1⟩, ⟨(leaf_ok W hk).1, h2⟩⟩
theorem ofKinds_set {w : Wood} : ∀ {bs : List Tree} {ks : List Str} {b : Nat} {t : Tree} {k : Str}, ofKinds w bs ks → ks[b]? = some k → ofKind w t k → ofKinds w (bs.set b t) ks
  | [], _, _, _, _, _, _, _ => trivial
  | _ :: _, [], _, _, _, _, h, _ => by simp at h
  | c :: bs, q :: ks, 0, t, k, h, e, ht => by simp at e; subst e; exact ⟨ht, h.2⟩
  | c :: bs, q :: ks, b + 1, t, k, h, e, ht => ⟨h.1, ofKinds_set h.2 (by simpa using e) ht⟩
theorem oks_set : ∀ {bs : List Tree} {b : Nat} {t : Tree}, Tree.oks bs → t.ok → Tree.oks (bs.set b t)
  | [], _, _, _, _ => trivial
  | c :: bs, 0, t, h, ht => ⟨ht, h.2⟩
  | c :: bs, b + 1, t, h, ht => ⟨h.1, oks_set h.2 ht⟩
theorem Tree.deep_pos : ∀ t : Tree, 1 ≤ t.deep
  | .node _ _ bs => by show 1 ≤ Tree.deeps bs + 1; omega
theorem leaves_deep {w : Wood} (W : GoodWood w) {ks : List Str} (h : ∀ k ∈ ks, k ∈ kinds w) : Tree.deeps (ks.map (leafOf w)) ≤ 1 :=
  Tree.deeps_le fun p hp => by
    obtain ⟨k, hk, rfl⟩ := List.mem_map.mp hp
    exact Nat.le_of_eq (leaf_ok W (h k hk)).2
theorem deeps_set : ∀ {bs : List Tree} {b : Nat} {t : Tree} {n : Nat}, Tree.deeps bs ≤ n → t.deep ≤ n → Tree.deeps (bs.set b t) ≤ n
  | [], _, _, _, h, _ => h
  | c :: bs, 0, t, n, h, ht => by
    have h' : max c.deep (Tree.deeps bs) ≤ n := h
    show max t.deep (Tree.deeps bs) ≤ n
    omega
  | c :: bs, b + 1, t, n, h, ht => by
    have h' : max c.deep (Tree.deeps bs) ≤ n := h
    have := deeps_set (bs := bs) (b := b) (t := t) (n := n) (by omega) ht
    show max c.deep (Tree.deeps (bs.set b t)) ≤ n
    omega
section
variable {T : Turning} (W : WF T) {m : Nat} {md : Mode} (hm : T.modes[m]? = some md) {i : Nat} {r : TM.Row} {t : Term} (h1 : (rowsOf T.wood md.1)[i]? = some r) (h2 : md.2[i]? = some t)
include W hm h1 h2
theorem grown_none (mark : Int) (b : Nat) : ofKind T.wood (grownT T.wood r mark b none) md.1 ∧ (grownT T.wood r mark b none).ok ∧ (grownT T.wood r mark b none).deep ≤ 2 := by
  have mm := List.mem_of_getElem? hm
  obtain ⟨q1, q2, q3⟩ := W.wood.row md.1 (W.kind md mm) r (List.mem_of_getElem? h1)
  obtain ⟨g1, g2⟩ := ofKinds_leaves W.wood q3
  refine ⟨⟨r.2, List.mem_of_getElem? h1, by simp, g1⟩, ⟨q1, ?_, g2⟩, ?_⟩
  · show (r.2.map (leafOf T.wood)).length ≤ 1000
    rw [List.length_map]; omega
  · have := leaves_deep W.wood q3
    show Tree.deeps (r.2.map (leafOf T.wood)) + 1 ≤ 2
    omega
theorem grown_some (mark : Int) {b : Nat} {k : Str} {c : Tree} (hb : r.2[b]? = some k) (hc : ofKind T.wood c k) (oc : c.ok) : ofKind T.wood (grownT T.wood r mark b (some c)) md.1 ∧ (grownT T.wood r mark b (some c)).ok ∧ (grownT T.wood r mark b (some c)).deep ≤ c.deep + 1 := by
  have mm := List.mem_of_getElem? hm
  obtain ⟨q1, q2, q3⟩ := W.wood.row md.1 (W.kind md mm) r (List.mem_of_getElem? h1)
  obtain ⟨g1, g2⟩ := ofKinds_leaves W.wood q3
  refine ⟨⟨r.2, List.mem_of_getElem? h1, by simp [List.length_set], ofKinds_set g1 hb hc⟩, ⟨q1, ?_, oks_set g2 oc⟩, ?_⟩
  · show ((r.2.map (leafOf T.wood)).set b c).length ≤ 1000
    rw [List.length_set, List.length_map]; omega
  · have h := leaves_deep W.wood q3
    have h2 := Tree.deep_pos c
    show Tree.deeps ((r.2.map (leafOf T.wood)).set b c) + 1 ≤ c.deep + 1
    have := deeps_set (b := b) (t := c) (n := c.deep) (Nat.le_trans h h2) (Nat.le_refl _)
    omega
/-- the label where a put of the rule stands -/
theorem unl_put {P : List Nat} {L : Label} {n : Str} {k : Bool} {a : Int} {ps : List Term} (hst : standsAt t P = some (.put n k a ps, [])) (mark : Int) (hne : (n, a + mark * (if k then 1 else 0), ps.length) ≠ L) {D : Nat} (hD : 2 ≤ D) : Unl T m P L D (grownT T.wood r mark 0 none) := by
  obtain ⟨g1, g2, g3⟩ := grown_none W hm h1 h2 mark 0
  refine ⟨Nat.le_trans g3 hD, ⟨md, hm, g1⟩, g2, (n, a + mark * (if k then 1 else 0), ps.length), ?_, hne⟩
  show labelAt (out T (.node r.1 mark _) m) P = _
  rw [out_rule (ruleOf_row W hm h1 h2), label_stands hst, inst, labelAt, insts_map, List.length_map]
/-- .. a call stands, by a tree handed in -/
theorem unl_call {P rest : List Nat} {L : Label} {m' b : Nat} {c : Tree} (hst : standsAt t P = some (.call m' b, rest)) (hf : fits T.modes r.2 m' b) {D : Nat} (hc : Unl T m' rest L D c) : Unl T m P L (D + 1) (grownT T.wood r 0 b (some c)) := by
  obtain ⟨md', q1, q2⟩ := hf
  obtain ⟨md2, e1, hk⟩ := hc.kind
  rw [q1] at e1; cases e1
  obtain ⟨g1, g2, g3⟩ := grown_some W hm h1 h2 0 q2 hk hc.ok
  obtain ⟨l, hl, hne⟩ := hc.lab
  have hcd := hc.deep
  refine ⟨by omega, ⟨md, hm, g1⟩, g2, l, ?_, hne⟩
  have hb : b < r.2.length := (List.getElem?_eq_some_iff.mp q2).1
  have hbs : ((r.2.map (leafOf T.wood)).set b c)[b]? = some c := List.getElem?_set_self (by rw [List.length_map]; exact hb)
  show labelAt (out T (.node r.1 0 ((r.2.map (leafOf T.wood)).set b c)) m) P = _
  rw [out_rule (ruleOf_row W hm h1 h2), label_stands hst, inst, outs_get hbs]
  exact hl
/-- .. by leaves -/
theorem unl_leaf {P rest : List Nat} {L : Label} {m' b : Nat} (hst : standsAt t P = some (.call m' b, rest)) (hf : fits T.modes r.2 m' b) (j : Nat) {n : Str} {a : Int} {ps : List Stump} {s : Stump} (hs : (lev T j)[m']? = some s) (hx : stumpAt s rest = some (.put n a ps)) (hne : (n, a, ps.length) ≠ L) {D : Nat} (hD : 2 ≤ D) :
    Unl T m P L D (grownT T.wood r 0 0 none) := by
  obtain ⟨md', q1, q2⟩ := hf
  obtain ⟨g1, g2, g3⟩ := grown_none W hm h1 h2 0 0
  obtain ⟨l, hl, hlab⟩ := begins_at (leaf_begins W j q1 hs) hx
  have el := hlab n a ps rfl
  subst el
  refine ⟨Nat.le_trans g3 hD, ⟨md, hm, g1⟩, g2, _, ?_, hne⟩
  have hbs : (r.2.map (leafOf T.wood))[b]? = some (leafOf T.wood md'.1) := by rw [List.getElem?_map, q2]; rfl
  show labelAt (out T (.node r.1 0 (r.2.map (leafOf T.wood))) m) P = _
  rw [out_rule (ruleOf_row W hm h1 h2), label_stands hst, inst, outs_get hbs]
  exact hl
end
/-! a leaf's own label -/
theorem leaf_label {T : Turning} (W : WF T) {k m : Nat} {md : Mode} {s : Stump} {P : List Nat} (hm : T.modes[m]? = some md) (hs : (lev T k)[m]? = some s) (hP : stumpAt s P = some .opn) :
    ∃ n nm kk a ps t, leafOf T.wood md.1 = .node nm 0 [] ∧ ruleOf T m nm = some t ∧ standsAt t P = some (.put n kk a ps, []) ∧ labelAt (out T (leafOf T.wood md.1) m) P = some (n, a, ps.length) ∧ PyData.strOk n = true := by
  have mm := List.mem_of_getElem? hm
  obtain ⟨j, nm, h1, h2⟩ := leaf_row (W.wood.bare md.1 (W.kind md mm))
  obtain ⟨t, h3, h4⟩ := W.rowRule mm h1
  have hr := ruleOf_row W hm h1 h3
  obtain ⟨x, hx, _⟩ := le_at (lev_le_bare W k hm hs h1 rfl h3) hP
  obtain ⟨here, rest, g1, g2⟩ := stumpIn_at hx
  obtain ⟨ok, hc⟩ := standsAt_mem g1 h4.ok (h4.nocall rfl)
  rcases g2 with ⟨m', b, rfl, _⟩ | ⟨n, kk, a, ps, rfl, rfl, _⟩
  · exact hc.elim
  · refine ⟨n, nm, kk, a, ps, t, h2, hr, g1, ?_, ok.1⟩
    rw [h2, out_rule hr, label_stands g1, inst, labelAt, insts_map, List.length_map]
    have : a + 0 * (if kk then 1 else 0) = a := by omega
    rw [this]
/-! the rows that are gone through: one has another label -/
/-- what the list of a mode's common stump is met of -/
theorem lev_rows {T : Turning} (W : WF T) (k : Nat) {m : Nat} {md : Mode} {s : Stump} {P : List Nat} {L : Label} (hm : T.modes[m]? = some md) (hs : (lev T k)[m]? = some s) (hP : stumpAt s P = some .opn)
    (h : ∀ (i : Nat) (r : TM.Row) (t : Term), (rowsOf T.wood md.1)[i]? = some r → md.2[i]? = some t → (0 < k ∨ r.2 = []) → ∃ x, stumpAt (stumpIn (lev T (k - 1)) t) P = some x ∧ HasLab L x) : False := by
  have mm := List.mem_of_getElem? hm
  have fin : ∀ l : List Stump, l ≠ [] → s = metOf l → (∀ b ∈ l, ∃ x, stumpAt b P = some x ∧ HasLab L x) → False := by
    intro l hn e hl
    subst e
    obtain ⟨ps, e, _⟩ := metOf_at hn hP hl
    cases e
  cases k with
  | zero =>
    have hs' : (first T)[m]? = some s := hs
    unfold first at hs'
    rw [List.getElem?_map, hm] at hs'
    refine fin _ (W.bares_ne mm) (Option.some.inj hs').symm fun b hb => ?_
    obtain ⟨j, r, t, g1, g2, g3, g4, rfl⟩ := W.mem_bares mm hb
    rw [stumpIn_none (S := []) (S' := lev T (0 - 1)) t (g4.nocall g2)]
    exact h j r t g1 g3 (.inr g2)
  | succ k =>
    have hs' : (next T (lev T k))[m]? = some s := hs
    unfold next at hs'
    rw [List.getElem?_map, hm] at hs'
    refine fin _ (by simpa using W.rules_ne mm) (Option.some.inj hs').symm fun b hb => ?_
    obtain ⟨t, ht, rfl⟩ := List.mem_map.mp hb
    obtain ⟨j, r, g1, g2, _⟩ := W.ruleRow mm ht
    exact h j r t g1 g2 (.inl (Nat.succ_pos k))
/-- each row that is gone through has something at the place -/
theorem row_at {T : Turning} (W : WF T) (k : Nat) {m : Nat} {md : Mode} {s : Stump} {P : List Nat} (hm : T.modes[m]? = some md) (hs : (lev T k)[m]? = some s) (hP : stumpAt s P = some .opn)
    {i : Nat} {r : TM.Row} {t : Term} (h1 : (rowsOf T.wood md.1)[i]? = some r) (h2 : md.2[i]? = some t) (hc : 0 < k ∨ r.2 = []) : ∃ x, stumpAt (stumpIn (lev T (k - 1)) t) P = some x := by
  have mm := List.mem_of_getElem? hm
  have rk := W.rule md mm i r t h1 h2
  rcases hc with hk | hb
  · cases k with
    | zero => omega
    | succ k =>
      have hs' : (next T (lev T k))[m]? = some s := hs
      unfold next at hs'
      rw [List.getElem?_map, hm] at hs'
      have e : s = metOf (md.2.map (stumpIn (lev T k))) := (Option.some.inj hs').symm
      subst e
      obtain ⟨x, hx, _⟩ := le_at (metOf_le (List.mem_map.mpr ⟨t, List.mem_of_getElem? h2, rfl⟩)) hP
      exact ⟨x, hx⟩
  · obtain ⟨x, hx, _⟩ := le_at (lev_le_bare W k hm hs h1 hb h2) hP
    rw [stumpIn_none (S := []) (S' := lev T (k - 1)) t (rk.nocall hb)] at hx
    exact ⟨x, hx⟩
end TM

set_option Elab.async false
set_option linter.all false
set_option maxRecDepth 100000
set_option maxHeartbeats 1000000
/-! sorted of rows (text, anything), the texts apart -/
namespace Srt
open PySem PyProof.Rows
section
variable {prog : Program} {w : World} {A : Around} {E : Value → Shared → Prop} {s : Shared}
def IsRow (h : Heap) (v : Value) (x : Str) (y : Value) : Prop := ∃ a o t n, v = .ref a ∧ h.get? a = some o ∧ o.cls = .type "tuple" ∧ o.data = .seq #[.str x t, y] n
theorem IsRow.keeps {h h' : Heap} {v : Value} {x : Str} {y : Value} (p : IsRow h v x y) (k : ∀ b o, h.get? b = some o → o.cls = .type "tuple" → h'.get? b = some o) : IsRow h' v x y := by
  obtain ⟨a, o, t, n, e, ho, hc, hd⟩ := p
  exact ⟨a, o, t, n, e, k _ _ ho hc, hc, hd⟩
/-- rows, the texts apart -/
def Rws (h : Heap) (vs : List Value) : Prop := (∀ v ∈ vs, ∃ x y, IsRow h v x y) ∧ ∀ v ∈ vs, ∀ u ∈ vs, ∀ x y y', IsRow h v x y → IsRow h u x y' → y = y'
theorem row_tot {vs : List Value} (hp : Rws s.heap vs) : Tot prog w A s (tuples' true) (fun p => p.1 ∈ vs) := by
  intro p q hm hm'
  obtain ⟨x, y, r1⟩ := hp.1 _ hm
  obtain ⟨x', y', r2⟩ := hp.1 _ hm'
  have same : x = x' → y = y' := fun e => hp.2 _ hm _ hm' x y y' r1 (e ▸ r2)
  obtain ⟨a, o, t, n, e, ho, hc, hd⟩ := r1
  obtain ⟨a', o', t', n', e', ho', hc', hd'⟩ := r2
  rw [e, e']
  refine ⟨if x = x' then false else decide (x.cps.toList < x'.cps.toList), ?_⟩
  refine PySem.W.kat_lt ho hd ho' hd' ?_
  show PySem.W.KatLex prog w A true (decide (2 < 2)) _ [(.str x t, .str x' t'), (y, y')] 0 s
  refine PySem.W.kat_cons (SeqAt.EqAt.str_str x t x' t' prog w _ _ ?_)
  refine PySem.W.kat_go (fun e1 => ?_) (fun e1 => ?_)
  · have ex : x = x' := by simpa using e1
    have ey := same ex
    subst ey
    refine PySem.W.kat_yes (PySem.W.kat_cons (SeqAt.EqAt.same y prog w _ _ ?_))
    exact PySem.W.kat_yes (PySem.W.kat_nil ⟨rfl, by rw [if_pos ex]; rfl⟩)
  · have ex : ¬ x = x' := by simpa using e1
    exact PySem.W.kat_no (oneLt_str ⟨rfl, by rw [if_neg ex]⟩)
theorem row_firsts {h : Heap} : ∀ {vs : List Value}, (∀ v ∈ vs, ∃ x y, IsRow h v x y) → ∃ fs : List Value, PySem.W.KatTups h vs fs ∧ fs.length = vs.length ∧ ∀ f ∈ fs, ∃ x t, f = Value.str x t
  | [], _ => ⟨[], PySem.W.KatTups.nil, rfl, fun _ hm => by simp at hm⟩
  | v :: vs, hp => by
    obtain ⟨fs, h1, h2, h3⟩ := row_firsts (vs := vs) fun v' hm => hp v' (List.mem_cons_of_mem _ hm)
    obtain ⟨x, y, a, o, t, n, e, ho, hc, hd⟩ := hp v (List.mem_cons_self ..)
    subst e
    refine ⟨.str x t :: fs, PySem.W.KatTups.cons ho hc hd rfl h1, by rw [List.length_cons, List.length_cons, h2], fun f hm => ?_⟩
    rcases List.mem_cons.mp hm with rfl | hm
    · exact ⟨x, t, rfl⟩
    · exact h3 f hm
theorem IsRow.back {h h' : Heap} {v : Value} {x x' : Str} {y y' : Value} (p : IsRow h v x y) (q : IsRow h' v x' y') (k : ∀ b o, h.get? b = some o → o.cls = .type "tuple" → h'.get? b = some o) : x = x' ∧ y = y' := by
  obtain ⟨a, o, t, n, e, ho, hc, hd⟩ := p
  obtain ⟨a', o', t', n', e', ho', hc', hd'⟩ := q
  rw [e] at e'
  cases e'
  rw [k _ _ ho hc] at ho'
  cases ho'
  rw [hd] at hd'
  cases hd'
  exact ⟨rfl, rfl⟩
theorem Rws.keeps {h h' : Heap} {vs : List Value} (p : Rws h vs) (k : ∀ b o, h.get? b = some o → o.cls = .type "tuple" → h'.get? b = some o) : Rws h' vs := by
  refine ⟨fun v hm => ?_, fun v hv u hu x y y' r1 r2 => ?_⟩
  · obtain ⟨x, y, r⟩ := p.1 v hm
    exact ⟨x, y, r.keeps k⟩
  · obtain ⟨x1, y1, q1⟩ := p.1 v hv
    obtain ⟨x2, y2, q2⟩ := p.1 u hu
    obtain ⟨rfl, rfl⟩ := q1.back r1 k
    obtain ⟨rfl, rfl⟩ := q2.back r2 k
    exact p.2 v hv u hu _ _ _ q1 q2
theorem rows_sortable {a : Addr} {vs : List Value} (h0 : 0 < vs.length) (hp : Rws s.heap vs) (ha : ∀ o, s.heap.get? a = some o → o.cls ≠ .type "tuple") : Sortable prog w A s a vs := by
  intro h' keep
  have hp' : Rws h' vs := hp.keeps fun b o e c => keep b o (fun z => by subst z; exact ha o e c) e
  obtain ⟨fs, h1, h2, h3⟩ := row_firsts hp'.1
  refine ⟨tuples' true, fun Q E hq => ?_, row_tot hp'⟩
  refine PySem.W.kat_kind (T := .type "str") h1 (by omega) (fun f hm => ?_) (by rfl) ?_
  · obtain ⟨x, t, rfl⟩ := h3 f hm
    exact PySem.W.Looks.now
  · have e : (Value.type "str" != Value.type "tuple") = true := by first | decide +kernel | rfl | decide
    rw [e]
    exact hq
theorem sorted_rows {l : Addr} {vs : List Value} {Q : Value → Shared → Prop} (hl : s.heap.IsList l vs.toArray) (hz : vs.length ≤ sizeLine) (hp : Rws s.heap vs)
    (h : ∀ (h' : Heap) (d : Addr) (out : List Value), out.Perm vs → (∀ b o, s.heap.get? b = some o → h'.get? b = some o) → s.heap.objs.size ≤ d → (∃ n, h'.get? d = some (seqObj "list" out.toArray n)) → Q (.ref d) { s with heap := h' }) :
    wpAny (model prog w) A (call (.builtin "sorted") [.ref l]) Q E s := by
  refine sorted_any hl hz (fun h2 h₁ a ha k => ?_) fun out ho => ?_
  · refine rows_sortable (s := { s with heap := h₁ }) (by omega) (hp.keeps fun b o e _ => (k b o e).2) fun o e => ?_
    have e' : some o = some (seqObj "list" vs.toArray 0) := e.symm.trans ha
    cases e'
    intro c
    exact absurd (Value.type.inj c) (by decide)
  · exact h _ _ out ho (fun b o e => sortedAll_old e) (Nat.le_succ _) (sortedAll_at s.heap vs out.toArray)
end
end Srt
namespace L2
open PySem PySem.Spec PyProof.Rows
def rSortedN (K : PySem.W.Frag) : List V → Hp → VK → Prop := fun vs H Q => ∃ a xs, vs = [V.ref a] ∧ SqL K H a xs ∧ (∀ x ∈ xs, ∃ t n y, x = V.ref t ∧ H t = some (.tup [.str n, y])) ∧
  (∀ t t' n y y', V.ref t ∈ xs → V.ref t' ∈ xs → H t = some (.tup [.str n, y]) → H t' = some (.tup [.str n, y']) → t = t') ∧ ∀ ys p, ys.Perm xs → H p = none → Q (.ref p) (upd H p (.lst ys))
theorem cr_sortedN {X : Cx} : CallR X (.builtin "sorted") (rSortedN X.K) := by
  intro pins s σ H vs us Q I r h
  obtain ⟨a, xs, rfl, hs, hx, hd, q⟩ := h
  obtain ⟨its, rv, hl, hz⟩ := I.list hs
  obtain ⟨u, rfl, ru⟩ := vals1 r
  obtain rfl : u = Value.ref a := ru
  obtain ⟨e1, e2⟩ := refs_back rv fun x m => by
    obtain ⟨t, _, _, e, _⟩ := hx x m
    exact ⟨t, e⟩
  have row : ∀ v ∈ its, ∃ t n y y', v = Value.ref t ∧ V.ref t ∈ xs ∧ H t = some (.tup [.str n, y]) ∧ Srt.IsRow s.heap v n y' := fun v hv => by
    obtain ⟨t, rfl⟩ := e2 v hv
    have hm : V.ref t ∈ xs := by rw [e1]; exact List.mem_map.mpr ⟨_, hv, rfl⟩
    obtain ⟨t', n, y, e, ht⟩ := hx _ hm
    cases e
    obtain ⟨_, its2, r2, o, ho, hc, nn, hdd⟩ := I.hok _ _ ht
    obtain ⟨u1, u2, rfl, ri, rj⟩ := vals2 r2
    obtain ⟨t1, rfl⟩ := ri
    exact ⟨t, n, y, u2, rfl, hm, ht, t, o, t1, nn, rfl, ho, hc, hdd⟩
  refine Srt.sorted_rows hl.isList (by rw [← rv.length]; exact hz) ⟨fun v hv => ?_, fun v hv u hu x y y' r1 r2 => ?_⟩ fun h' d out hp k hd hn => ?_
  · obtain ⟨t, n, y, y', _, _, _, z⟩ := row v hv
    exact ⟨n, y', z⟩
  · obtain ⟨t, n, z, z', rfl, m1, g1, q1⟩ := row v hv
    obtain ⟨t', n', z2, z2', rfl, m2, g2, q2⟩ := row u hu
    obtain ⟨rfl, rfl⟩ := q1.back r1 fun _ _ e _ => e
    obtain ⟨rfl, rfl⟩ := q2.back r2 fun _ _ e _ => e
    obtain rfl := hd t t' _ _ _ m1 m2 g1 g2
    exact (q1.back q2 fun _ _ e _ => e).2
  · have h3 : ∀ u ∈ out, ∃ a, u = Value.ref a := fun u hu => e2 u (hp.mem_iff.mp hu)
    obtain ⟨n, hn⟩ := hn
    refine ⟨.ref d, upd H d (.lst (out.map backV)), I.laid (t' := s.toks) k hd ⟨?_, out, n, vals_back h3, hn⟩, rfl, q _ d ?_ (I.hok.fresh hd)⟩
    · rw [List.length_map, hp.length_eq, ← rv.length]; exact hz
    · rw [e1]; exact hp.map backV
end L2
namespace DL
open PySem PySem.Spec PyProof.Rows L2
theorem perm_map {α β : Type} {f : α → β} : ∀ {l k : List β}, l.Perm k → ∀ {m : List α}, k = m.map f → ∃ m' : List α, m'.Perm m ∧ l = m'.map f := by
  intro l k h
  induction h with
  | nil => intro m e; exact ⟨m, List.Perm.refl _, e⟩
  | cons x h ih =>
    intro m e
    cases m with
    | nil => simp at e
    | cons a m =>
      rw [List.map_cons, List.cons.injEq] at e
      obtain ⟨m', h1, h2⟩ := ih e.2
      exact ⟨a :: m', h1.cons a, by rw [List.map_cons, ← h2, e.1]⟩
  | swap x y l =>
    intro m e
    cases m with
    | nil => simp at e
    | cons a m =>
      cases m with
      | nil => simp at e
      | cons b m =>
        rw [List.map_cons, List.map_cons, List.cons.injEq, List.cons.injEq] at e
        exact ⟨b :: a :: m, List.Perm.swap _ _ _, by rw [List.map_cons, List.map_cons, ← e.1, ← e.2.1, ← e.2.2]⟩
  | trans h1 h2 ih1 ih2 =>
    intro m e
    obtain ⟨m1, g1, g2⟩ := ih2 e
    obtain ⟨m2, k1, k2⟩ := ih1 g2
    exact ⟨m2, k1.trans g1, k2⟩
theorem Dds.perm {H : Hp} {ys xs : List V} (h : ys.Perm xs) : ∀ {ds : List PyData}, Dds H xs ds → ∃ es : List PyData, es.Perm ds ∧ Dds H ys es := by
  induction h with
  | nil => intro ds d; cases d; exact ⟨[], List.Perm.refl _, .nil⟩
  | cons x h ih =>
    intro ds d
    cases d with
    | cons d1 d2 =>
      obtain ⟨es, h1, h2⟩ := ih d2
      exact ⟨_, h1.cons _, .cons d1 h2⟩
  | swap x y l =>
    intro ds d
    cases d with
    | cons d1 d2 =>
      cases d2 with
      | cons d2 d3 => exact ⟨_, List.Perm.swap _ _ _, .cons d2 (.cons d1 d3)⟩
  | trans h1 h2 ih1 ih2 =>
    intro ds d
    obtain ⟨es, g1, g2⟩ := ih2 d
    obtain ⟨es2, k1, k2⟩ := ih1 g2
    exact ⟨es2, k1.trans g1, k2⟩
theorem Dds.mem_get {H : Hp} {xs : List V} {ds : List PyData} (h : Dds H xs ds) {x : V} (hx : x ∈ xs) : ∃ (i : Nat) (d : PyData), xs[i]? = some x ∧ ds[i]? = some d ∧ Dd H x d := by
  obtain ⟨i, hi⟩ := List.mem_iff_getElem?.mp hx
  have hl : i < ds.length := by rw [← h.length]; exact (List.getElem?_eq_some_iff.mp hi).1
  obtain ⟨y, q1, q2⟩ := h.get (List.getElem?_eq_getElem hl)
  rw [hi] at q1
  cases q1
  exact ⟨i, _, hi, List.getElem?_eq_getElem hl, q2⟩
def rowD (r : Str × PyData) : PyData := .tuple [.str r.1, r.2]
section
variable {X : Cx} {δ : List Sl} {e : Expr} {pos p : Pos}
theorem dl_sorted {Ψ : List PyData → Prop} (hm : X.mg "sorted" = none) (h : DE X δ e fun d => ∃ rows : List (Str × PyData), d = .list (rows.map rowD) ∧ (rows.map (·.1)).Nodup ∧ ∀ out : List (Str × PyData), out.Perm rows → Ψ (out.map rowD)) (hg : Gl X "sorted" := by rfl)
    (hs : starEach (e :: []) X.env = (false, eval e X.env) :: starEach [] X.env := by rfl) : DL_ X δ (.Call (.Name "sorted" p) [e] [] pos) Ψ := by
  intro C S σ H I Q k
  refine tE_of (pe_callB cr_sortedN hg hm PyProof.Rows.boot_sorted (pa_cons pe_tE pa_nil hs) (by decide) (by decide) hs rfl) (h C S σ H I _ fun v H' d I' s h' q => ?_)
  obtain ⟨rows, rfl, nd, q⟩ := q
  obtain ⟨a, xs, rfl, g1, g2⟩ := h'.lst_inv
  have rowv : ∀ t, V.ref t ∈ xs → ∃ (i : Nat) (r : Str × PyData) (y : V), xs[i]? = some (.ref t) ∧ rows[i]? = some r ∧ H' t = some (.tup [.str r.1, y]) := fun t ht => by
    obtain ⟨i, d, e1, e2, e3⟩ := g2.mem_get ht
    rw [List.getElem?_map] at e2
    obtain ⟨r, hr, rfl⟩ := Option.map_eq_some_iff.mp e2
    obtain ⟨t', zs, e4, e5, e6⟩ := Dd.tup_inv (ds := [.str r.1, r.2]) e3
    cases e4
    cases e6 with
    | cons z1 z2 =>
      cases z2 with
      | cons z2 z3 =>
        cases z3
        rw [z1.str_inv] at e5
        exact ⟨i, r, _, e1, hr, kn_le _ _ e5⟩
  refine ⟨a, xs, rfl, .inl (.inl (kn_le _ _ g1)), fun x hx => ?_, fun t t' n y y' m1 m2 h1 h2 => ?_, fun ys l hp hl => ?_⟩
  · obtain ⟨i, d, e1, e2, e3⟩ := g2.mem_get hx
    rw [List.getElem?_map] at e2
    obtain ⟨r, hr, rfl⟩ := Option.map_eq_some_iff.mp e2
    obtain ⟨t', zs, rfl, e5, e6⟩ := Dd.tup_inv (ds := [.str r.1, r.2]) e3
    obtain ⟨_, r', y, _, _, z⟩ := rowv t' hx
    exact ⟨t', _, _, rfl, z⟩
  · obtain ⟨i, r, z, e1, e2, e3⟩ := rowv t m1
    obtain ⟨j, r', z', f1, f2, f3⟩ := rowv t' m2
    rw [h1] at e3
    rw [h2] at f3
    cases e3
    have en : r'.1 = r.1 := by
      injection f3 with a1
      injection a1 with a2
      injection a2 with a3 _
      injection a3 with a4
      exact a4.symm
    have hi : i < rows.length := (List.getElem?_eq_some_iff.mp e2).1
    have hj : j < rows.length := (List.getElem?_eq_some_iff.mp f2).1
    have ij : i = j := by
      have q1 : (rows.map (·.1))[i]? = some r.1 := by rw [List.getElem?_map, e2]; rfl
      have q2 : (rows.map (·.1))[j]? = some r.1 := by rw [List.getElem?_map, f2, Option.map_some, en]
      exact (List.getElem?_inj (by rw [List.length_map]; exact hi) nd).mp (q1.trans q2.symm)
    subst ij
    rw [e1] at f1
    cases f1
    rfl
  · obtain ⟨es, p1, p2⟩ := g2.perm hp
    obtain ⟨out, o1, rfl⟩ := perm_map p1 rfl
    obtain ⟨f1, f2, f3, f4⟩ := I'.fresh hl
    exact k l _ _ _ (I'.hid hl) (s.trans (Fd.of (same_upd hl))) ((s.kn I).trans (kn_add hl)) f3 f1 f4 upd_same (p2.mono (kn_add hl)) (q out o1)
end
end DL

set_option Elab.async false
set_option linter.all false
set_option maxRecDepth 100000
set_option maxHeartbeats 1000000
/-! list(reversed(list)); a slice and a sum of the law's numbers -/
namespace RT
open PySem PySem.Spec PyProof.Rows
section
variable {prog : Program} {w : World} {A : Around} {E : Value → Shared → Prop} {s : Shared}
theorem ext_rev {R : Result → Shared → Prop} {it l : Addr} {items : Array Value} (hh : A.handled = none) (hit : s.heap.IsRevIter it l ((items.size : Int) - 1)) (hl : s.heap.IsList l items) (hne : l ≠ it) (hn : items.size ≤ sizeLine)
    (S : Addr) (hSi : S ≠ it) (hSl : S ≠ l) (res : Value) (c₀ : Nat) (hS₁ : s.heap.get? S = some { cls := .type "list", data := .seq #[] c₀ })
    (hR : ∀ h' tk acc' c', (∀ b o, b ≠ S → b ≠ it → s.heap.get? b = some o → h'.get? b = some o) → h'.get? S = some { cls := .type "list", dict := none, data := .seq acc' c', slots := #[] } →
      ItemsOf (fun i v => items[items.size - 1 - i]? = some v) acc' items.size → R (.ok (.ret res)) { s with heap := h', toks := tk }) :
    wpAny (model prog w) A.in1 (Builtin.List.listExtendWith (.ref S) (.ref it) res)
      (fun fin s' => match fin with | .done f => R (.ok f) s' | .again c' => c'.quiet = true ∧ codeAny (model prog w) A c' R s') (fun e s' => R (.error e) s') s := by
  have W := (Walks.listRev (prog := prog) (w := w) (A := A.in1) hh it l hne items).toS
  have hSf : S ∉ [it, l] := by simp only [List.mem_cons, List.not_mem_nil, or_false, not_or]; exact ⟨hSi, hSl⟩
  have hT : s.TypeIs (.ref it) "list_reverseiterator" := Heap.IsRevIter.typeIs hit
  have h1 : Builtin.List.listSameRef (.ref S) (.ref it) = false := by simp [Builtin.List.listSameRef, hSi]
  unfold Builtin.List.listExtendWith
  refine wpAny_bind (wpAny_typeOf hT ?_)
  rw [if_neg (by rw [h1]; decide)]
  refine wpAny_bind (wpAny_pyIter_revIter hit ?_)
  refine wpAny_bind (wpAny_holding ?_)
  unfold Builtin.List.listLengthHint
  refine wpAny_bind (wpAny_specialOf hT nolen_lri ?_)
  show wpAny _ A.in1 (specialOf (Value.ref it) (Str.ofString "__length_hint__") >>= _) _ _ _
  refine wpAny_bind (wpAny_specialOf hT hint_lri ?_)
  generalize hid : ("list_reverseiterator.__length_hint__" : String) = id0
  wp_delta
  rw [show splitId id0 = some ("list_reverseiterator", "__length_hint__") from by subst hid; decide +kernel]
  subst hid
  refine wpAny_bind (wpAny_isInstance (b := true) hT (by rw [isSubtype_type]; kernel_rfl) ?_)
  refine wpAny_pure ?_
  rw [if_neg (by decide)]
  have e0 : ((items.size : Nat) : Int) - 1 - ((0 : Nat) : Int) = (items.size : Int) - 1 := by omega
  refine wpAny_pure ⟨plainId_quiet F.plain_extend_loop _, codeAny_extend_loopS W hn _ hSf _ items.size 0 _ _ _ rfl (Nat.zero_le _) ⟨Nat.zero_le _, by rw [e0]; exact hit, hl⟩ hS₁ (ItemsOf.nil _) fun s' acc' c' hm hS' hacc => ?_⟩
  rw [Moved.eq_with hm]
  refine hR s'.heap s'.toks acc' c' (fun b o hb hb2 e => hm.heap b o (fun hmem => ?_) e) hS' hacc
  rcases List.mem_cons.mp hmem with e' | hmem
  · exact hb e'
  · exact hb2 (List.mem_singleton.mp hmem)
theorem list_init_rev {R : Result → Shared → Prop} {it l : Addr} {items : Array Value} (hh : A.handled = none) (hit : s.heap.IsRevIter it l ((items.size : Int) - 1)) (hl : s.heap.IsList l items) (hne : l ≠ it) (hn : items.size ≤ sizeLine)
    (S : Addr) (hSi : S ≠ it) (hSl : S ≠ l) (hS : s.heap.get? S = some { cls := .type "list", data := .seq #[] })
    (hR : ∀ h' tk acc' c', (∀ b o, b ≠ S → b ≠ it → s.heap.get? b = some o → h'.get? b = some o) → h'.get? S = some { cls := .type "list", dict := none, data := .seq acc' c', slots := #[] } →
      ItemsOf (fun i v => items[items.size - 1 - i]? = some v) acc' items.size → R (.ok (.ret .none)) { s with heap := h', toks := tk }) :
    wpAny (model prog w) A.in1 (Builtin.«list.__init__» ⟨[.ref S, .ref it], []⟩)
      (fun fin s' => match fin with | .done f => R (.ok f) s' | .again c' => c'.quiet = true ∧ codeAny (model prog w) A c' R s') (fun e s' => R (.error e) s') s := by
  show wpAny _ _ (do let old ← Builtin.List.listItems (.ref S); Builtin.List.listUpdate (.ref S) (fun _ => #[]); letGo old.toList.reverse; Builtin.List.listExtendWith (.ref S) (.ref it) .none) _ _ s
  refine wpAny_bind ?_
  unfold Builtin.List.listItems
  refine wpAny_bind (wpAny_seqItems hS rfl (wpAny_pure ?_))
  show wpAny _ _ (updateSeq S (fun _ => #[]) >>= fun _ => letGo (#[] : Array Value).toList.reverse >>= fun _ => Builtin.List.listExtendWith (.ref S) (.ref it) .none) _ _ s
  refine wpAny_bind (wpAny_updateSeq hS rfl ?_)
  have hS₂ := Heap.get?_update_self (Obj.mapSeq (fun _ => (#[] : Array Value))) hS rfl
  have oth : ∀ b o, b ≠ S → s.heap.get? b = some o → (s.heap.update S (Obj.mapSeq (fun _ => (#[] : Array Value)))).get? b = some o :=
    fun b o hb e => (Heap.get?_update_other _ _ (Ne.symm hb)).trans e
  refine wpAny_bind (wpAny_letGo ?_)
  have hit2 : (s.heap.update S (Obj.mapSeq (fun _ => (#[] : Array Value)))).IsRevIter it l ((items.size : Int) - 1) := hit.at fun o e => oth it o (Ne.symm hSi) e
  have hl2 : (s.heap.update S (Obj.mapSeq (fun _ => (#[] : Array Value)))).IsList l items := by
    obtain ⟨o, ho, x⟩ := hl
    exact ⟨o, oth l o (Ne.symm hSl) ho, x⟩
  refine ext_rev (s := { s with heap := s.heap.update S (Obj.mapSeq (fun _ => (#[] : Array Value))) }) hh hit2 hl2 hne hn S hSi hSl .none _ hS₂ fun h' tk acc' c' hk hS' hacc => ?_
  exact hR h' tk acc' c' (fun b o hb hb2 e => hk b o hb hb2 (oth b o hb e)) hS' hacc
theorem call_list_rev {it l : Addr} {items : Array Value} {Q : Value → Shared → Prop} (hh : A.handled = none) (hit : s.heap.IsRevIter it l ((items.size : Int) - 1)) (hl : s.heap.IsList l items) (hne : l ≠ it) (hn : items.size ≤ sizeLine)
    (hQ : ∀ h' tk acc' c', (∀ b o, b ≠ it → s.heap.get? b = some o → h'.get? b = some o) →
      h'.get? s.heap.objs.size = some { cls := .type "list", dict := none, data := .seq acc' c', slots := #[] } → ItemsOf (fun i v => items[items.size - 1 - i]? = some v) acc' items.size → Q (.ref s.heap.objs.size) { s with heap := h', toks := tk }) :
    wpAny (model prog w) A (call (.type "list") [.ref it]) Q E s := by
  obtain ⟨oi, hoi, _⟩ := id hit
  obtain ⟨ol, hol, _⟩ := id hl
  refine callType_codes (Q₁ := fun obj s₁ => obj = .ref s.heap.objs.size ∧ s₁ = { s with heap := s.heap.push { cls := .type "list", data := .seq #[] } }) F.called_list (F.typeCall_list_1 _) F.entry_list_init
    (code_list_new _ ⟨rfl, rfl⟩) fun obj s₁ h₁ => ?_
  obtain ⟨rfl, rfl⟩ := h₁
  have hS : (s.heap.push { cls := .type "list", data := .seq #[] }).get? s.heap.objs.size = some { cls := .type "list", data := .seq #[] } := Heap.get?_push_size _ rfl
  refine ⟨⟨_, hS, rfl⟩, F.args_list_init_2 _ _, list_init_rev (A := A.in1) (s := { s with heap := s.heap.push { cls := .type "list", data := .seq #[] } }) hh (hit.at fun o e => Heap.get?_push_of_some _ e) (hl.push _) hne hn _ (Nat.ne_of_gt (Heap.lt_size hoi)) (Nat.ne_of_gt (Heap.lt_size hol)) hS fun h' tk acc' c' hk hS' hacc => ?_⟩
  exact ⟨rfl, hQ h' tk acc' c' (fun b o hb e => hk b o (Nat.ne_of_lt (Heap.lt_size e)) hb (Heap.get?_push_of_some _ e)) hS' hacc⟩
end
end RT
namespace L2
open PySem PySem.Spec PyProof.Rows
def tListRev (K : PySem.W.Frag) (te : TE) : TE := fun σ H Q => te σ H fun v H1 => ∃ (a : Addr) (xs : List V), v = .ref a ∧ SqL K H1 a xs ∧ ∀ q, H1 q = none → Q (.ref q) (upd H1 q (.lst xs.reverse))
theorem pe_listRev {X : Cx} {e : Expr} {te : TE} {p p2 pos pos2 : Pos} (hc : X.calm = true) (hg : Gl X "list") (hm : X.mg "list" = none) (hg2 : Gl X "reversed") (hm2 : X.mg "reversed" = none) (he : PE X e te)
    (hs : starEach [e] X.env = (false, eval e X.env) :: starEach [] X.env := by rfl)
    (hs2 : starEach [.Call (.Name "reversed" p2) [e] [] pos2] X.env = (false, eval (.Call (.Name "reversed" p2) [e] [] pos2) X.env) :: starEach [] X.env := by rfl) :
    PE X (.Call (.Name "list" p) [.Call (.Name "reversed" p2) [e] [] pos2] [] pos) (tListRev X.K te) := by
  refine ⟨fun pins s σ H Q I h => ?_⟩
  refine Call_ (ld_blt I hg hm boot_list (PyProof.Rows.callWith_type1 (args_cons (Call_ (ld_blt I hg2 hm2 PyProof.Rows.boot_reversed (PyProof.Rows.callWith_type1 (args_cons (thn (he.run pins s σ H _ I h) fun u s1 ⟨v, H1, I1, r1, q1⟩ => args_nil ?_) hs) hs rfl))) hs2) hs2 rfl))
  obtain ⟨a, xs, ev, hq, q⟩ := q1
  subst ev
  obtain rfl : u = Value.ref a := r1
  obtain ⟨its, rv, p', hz⟩ := I1.list hq
  refine call_reversed_list p'.isList (args_nil ?_)
  have k0 : ∀ b o, s1.heap.get? b = some o → (s1.heap.push (revObj a ((its.toArray.size : Int) - 1))).get? b = some o := fun b o e => Heap.get?_push_of_some _ e
  have I2 : Inv X pins σ H1 { s1 with heap := s1.heap.push (revObj a ((its.toArray.size : Int) - 1)) } := I1.kept (t' := s1.toks) k0
  obtain ⟨f0, f1, f2, f3, f4, f5⟩ := I1.fpOk (H' := H1) (b := s1.heap.objs.size) (Nat.le_refl _) (I1.hok.fresh (Nat.le_refl _))
  have hl := p'.isList
  obtain ⟨ol, hol, _⟩ := id hl
  have hne : a ≠ s1.heap.objs.size := Nat.ne_of_lt (Heap.lt_size hol)
  have hn : its.toArray.size ≤ sizeLine := by rw [List.size_toArray, ← rv.length]; exact hz
  refine RT.call_list_rev (s := { s1 with heap := s1.heap.push (revObj a ((its.toArray.size : Int) - 1)) }) (I1.ok.hd hc) ⟨_, Heap.get?_push_size _ rfl, rfl, rfl⟩ (hl.push _) hne hn fun h' tk acc c' hk hS' hi => ?_
  have hlt : ∀ b o, s1.heap.get? b = some o → b ≠ s1.heap.objs.size := fun b o e => Nat.ne_of_lt (Heap.lt_size e)
  have hsz : (s1.heap.push (revObj a ((its.toArray.size : Int) - 1))).objs.size = s1.heap.objs.size + 1 := Heap.size_push ..
  rw [hsz] at hS' ⊢
  refine ⟨.ref (s1.heap.objs.size + 1), upd H1 (s1.heap.objs.size + 1) (.lst xs.reverse), I1.laid (t' := tk) (fun b o e => hk b o (hlt b o e) (k0 b o e)) (Nat.le_succ _) (show ObjOk X.prog X.w _ _ _ (.lst xs.reverse) from ⟨by rw [List.length_reverse]; exact hz, acc.toList, c', RT.vals_rev rv hi, ?_⟩), rfl, q _ (I1.hok.fresh (Nat.le_succ _))⟩
  rw [Array.toArray_toList]
  exact hS'
end L2
namespace DL
open PySem PySem.Spec PyProof.Rows L2
theorem Dds.reverse {H : Hp} : ∀ {xs : List V} {ds : List PyData}, Dds H xs ds → Dds H xs.reverse ds.reverse
  | _, _, .nil => .nil
  | x :: xs, d :: ds, .cons h1 h2 => by
    rw [List.reverse_cons, List.reverse_cons]
    exact (Dds.reverse h2).append (.one h1)
section
variable {X : Cx} {δ : List Sl} {Ψ : PyData → Prop} {e hi : Expr} {pos p p2 pos2 : Pos}
/-- list(reversed(e)) -/
theorem de_listRev (hm : X.mg "list" = none) (hm2 : X.mg "reversed" = none) (h : DE X δ e fun d => ∃ ds, d = .list ds ∧ Ψ (.list ds.reverse)) (hc : X.calm = true := by rfl) (hg : Gl X "list" := by rfl) (hg2 : Gl X "reversed" := by rfl)
    (hs : starEach [e] X.env = (false, eval e X.env) :: starEach [] X.env := by rfl)
    (hs2 : starEach [.Call (.Name "reversed" p2) [e] [] pos2] X.env = (false, eval (.Call (.Name "reversed" p2) [e] [] pos2) X.env) :: starEach [] X.env := by rfl) : DE X δ (.Call (.Name "list" p) [.Call (.Name "reversed" p2) [e] [] pos2] [] pos) Ψ := by
  intro C S σ H I Q k
  refine tE_of (pe_listRev hc hg hm hg2 hm2 pe_tE hs hs2) (h C S σ H I _ fun v H' d I' s h' q => ?_)
  obtain ⟨ds, rfl, q⟩ := q
  obtain ⟨a, xs, rfl, g1, g2⟩ := h'.lst_inv
  refine ⟨a, xs, rfl, .inl (.inl (kn_le _ _ g1)), fun l hl => ?_⟩
  have kp : Kn S (upd H' l (.lst xs.reverse)) l = some (.lst xs.reverse) := kn_some.mpr ⟨(I'.fresh hl).2.2.1, upd_same⟩
  exact k _ _ _ (I'.same (same_upd hl)) (s.trans (Fd.of (same_upd hl))) (.lst kp ((g2.reverse).mono (kn_same (same_upd hl)))) q
/-- script[:n] -/
theorem de_sliceQ {ns : List Int} (i : Nat) {y : Str} {py : Pos} (ho : δ[i]? = some (.sq ns)) (h : DE X δ hi fun d2 => ∃ n : Nat, d2 = .int ((n : Nat) : Int) ∧ Ψ (.list ((ns.take n).map PyData.int))) (hN : X.N[i]? = some y := by rfl)
    (hv : Vis X.env.scope y := by first | exact Or.inl rfl | exact Or.inr (Or.inl rfl) | exact Or.inr (Or.inr rfl)) (hdb : (y == ("__debug__" : Str)) = false := by decide) (hcd : (y == ("__classdict__" : Str)) = false := by decide) :
    DE X δ (.Subscript (.Name y py) (.Slice none (some hi) none p2) pos) Ψ := by
  intro C S σ H I Q k
  obtain ⟨v, hv', r, rfl, hq⟩ := I.at_ ho
  refine tE_of (pe_slice sl_list (pe_var hN hv hdb hcd) po_none (po_some pe_tE)) ⟨.ref r, hv', ?_⟩
  refine h C S σ H I _ fun w H' d2 I' s h2 q => ?_
  obtain ⟨n, rfl, q⟩ := q
  obtain ⟨v1, hv1, r1, e1, hq1⟩ := I'.at_ ho
  rw [hv'] at hv1
  cases hv1; cases e1
  refine ⟨(n : Int), h2.int_inv, r, ns.map V.int, rfl, same_sq kn_le hq1, fun l hl => ?_⟩
  rw [cutV_to, ← List.map_take]
  have kp : Kn S (upd H' l (.lst ((ns.take n).map V.int))) l = some (.lst ((ns.take n).map V.int)) := kn_some.mpr ⟨(I'.fresh hl).2.2.1, upd_same⟩
  exact k _ _ _ (I'.same (same_upd hl)) (s.trans (Fd.of (same_upd hl))) (.lst kp (Dds.ints _)) q
/-- sum of an own list of numbers -/
theorem de_sumO {ns : List Int} (i : Nat) {y : Str} {py : Pos} (hm : X.mg "sum" = none) (ho : δ[i]? = some (.ow (ns.map PyData.int))) (q : Ψ (.int ns.sum)) (hc : X.calm = true := by rfl) (hg : Gl X "sum" := by rfl) (hN : X.N[i]? = some y := by rfl)
    (hv : Vis X.env.scope y := by first | exact Or.inl rfl | exact Or.inr (Or.inl rfl) | exact Or.inr (Or.inr rfl)) (hdb : (y == ("__debug__" : Str)) = false := by decide) (hcd : (y == ("__classdict__" : Str)) = false := by decide)
    (hs : starEach (.Name y py :: []) X.env = (false, eval (.Name y py) X.env) :: starEach [] X.env := by rfl) : DE X δ (.Call (.Name "sum" p) [.Name y py] [] pos) Ψ := by
  intro C S σ H I Q k
  obtain ⟨v, hv', r, xs, rfl, hS, h0, hn, hp, hd⟩ := I.at_ ho
  have e := Dds.ints_inv hd
  subst e
  refine tE_of (pe_callB (cr_sum hc) hg hm PyProof.Rows.boot_sum (pa_cons (pe_var hN hv hdb hcd) pa_nil hs) (by decide) (by decide) hs rfl) ⟨.ref r, hv', r, ns, rfl, .inl (.inl hp), ?_⟩
  exact k _ H _ I (Fd.refl _) (.int _) q
end
end DL

set_option Elab.async false
set_option linter.all false
set_option maxRecDepth 100000
set_option maxHeartbeats 4000000
/-! the program's text by places -/
namespace WK
open PySem PySem.Spec PyProof.Rows L2 DL TM
def topS (i : Nat) : Stmt := PySem.Challenge.pw_turnery_k35_whole_common_stumps.main.body.getD i (.Pass ⟨0, 0, 0, 0⟩)
/-- what the top has left -/
structure Tx (K : PySem.W.Frag) (mg : Str → Option Value) : Prop where
  z_len : mg "len" = none
  z_tuple : mg "tuple" = none
  z_zip : mg "zip" = none
  z_enumerate : mg "enumerate" = none
  z_list : mg "list" = none
  z_range : mg "range" = none
  z_isinstance : mg "isinstance" = none
  z_int : mg "int" = none
  z_bool : mg "bool" = none
  z_str : mg "str" = none
  z_min : mg "min" = none
  z_sum : mg "sum" = none
  z_sorted : mg "sorted" = none
  z_reversed : mg "reversed" = none
  d_opens : Dfn K mg "opens" (topS 1) ["stump"]
  d_met : Dfn K mg "met" (topS 2) ["one", "other"]
  d_stump_at : Dfn K mg "stump_at" (topS 3) ["stump", "place"]
  d_rows_of : Dfn K mg "rows_of" (topS 8) ["wood", "kind"]
  d_leaf_of : Dfn K mg "leaf_of" (topS 9) ["wood", "kind"]
  d_stump_in : Dfn K mg "stump_in" (topS 11) ["term", "stumps"]
  d_met_of : Dfn K mg "met_of" (topS 12) ["stumps"]
  d_first_commons : Dfn K mg "first_commons" (topS 13) ["turning"]
  d_next_commons : Dfn K mg "next_commons" (topS 14) ["turning", "stumps"]
  d_by_levels : Dfn K mg "by_levels" (topS 15) ["turning", "most"]
  d_within : Dfn K mg "within" (topS 16) ["tables", "many"]
  d_commons : Dfn K mg "commons" (topS 17) ["turning"]
  d_row_number : Dfn K mg "row_number" (topS 19) ["wood", "kind", "name"]
  d_rule_of : Dfn K mg "rule_of" (topS 20) ["turning", "mode", "name"]
  d_grown : Dfn K mg "grown" (topS 22) ["turning", "row", "mark", "branch", "inner"]
  d_leaf_label : Dfn K mg "leaf_label" (topS 23) ["turning", "mode", "place"]
  d_stands_at : Dfn K mg "stands_at" (topS 24) ["rule", "place"]
  d_unlike_put : Dfn K mg "unlike_put" (topS 25) ["turning", "row", "put", "label"]
  d_unlike_call : Dfn K mg "unlike_call" (topS 26) ["turning", "tables", "row", "call", "rest", "many", "label"]
  d_unlike : Dfn K mg "unlike" (topS 27) ["turning", "tables", "mode", "place", "many", "label"]
  d_pair_at : Dfn K mg "pair_at" (topS 28) ["turning", "tables", "mode", "place", "many"]
  d_split : Dfn K mg "split" (topS 29) ["turning", "mode", "place"]
  d_law_numbers : Dfn K mg "_law_numbers" (topS 31) ["_law_script", "_law_most"]
  d_law_draw : Dfn K mg "_law_draw" (topS 32) ["_law_deck", "_law_most"]
  d_law_mark : Dfn K mg "_law_mark" (topS 33) ["_law_deck"]
  d_law_name : Dfn K mg "_law_name" (topS 34) ["_law_code", "_law_k"]
  d_law_wood : Dfn K mg "_law_wood" (topS 35) ["_law_deck", "_law_code"]
  d_law_rows : Dfn K mg "_law_rows" (topS 36) ["_law_wood_here", "_law_kind"]
  d_law_term : Dfn K mg "_law_term" (topS 37) ["_law_deck", "_law_code", "_law_calls_here", "_law_deep_here"]
  d_law_changed : Dfn K mg "_law_changed" (topS 38) ["_law_deck", "_law_code", "_law_term_here", "_law_calls_here"]
  d_law_calls : Dfn K mg "_law_calls" (topS 39) ["_law_kinds", "_law_branches"]
  d_law_rule : Dfn K mg "_law_rule" (topS 40) ["_law_deck", "_law_code", "_law_base", "_law_calls_here"]
  d_law_turning : Dfn K mg "_law_turning" (topS 41) ["_law_deck", "_law_code", "_law_wood_here"]
  d_law_bare : Dfn K mg "_law_bare" (topS 42) ["_law_term_here"]
  d_law_copy : Dfn K mg "_law_copy" (topS 43) ["_law_turning_here"]
  d_law_whole : Dfn K mg "_law_whole" (topS 44) ["_law_found"]
  d_law_is_stump : Dfn K mg "_law_is_stump" (topS 45) ["_law_found"]
  d_law_opens : Dfn K mg "_law_opens" (topS 46) ["_law_stump"]
  d_law_is_tree : Dfn K mg "_law_is_tree" (topS 47) ["_law_wood_here", "_law_kind", "_law_found"]
  d_law_tree : Dfn K mg "_law_tree" (topS 49) ["_law_deck", "_law_wood_here", "_law_kind", "_law_deep_here"]
  d_law_rule_of : Dfn K mg "_law_rule_of" (topS 50) ["_law_turning_here", "_law_mode", "_law_name_here"]
  d_law_made : Dfn K mg "_law_made" (topS 51) ["_law_turning_here", "_law_mode", "_law_tree_here"]
  d_law_made_by : Dfn K mg "_law_made_by" (topS 52) ["_law_turning_here", "_law_term_here", "_law_tree_here"]
  d_law_begins : Dfn K mg "_law_begins" (topS 53) ["_law_stump", "_law_tree_here"]
  d_law_label : Dfn K mg "_law_label" (topS 54) ["_law_turning_here", "_law_mode", "_law_tree_here", "_law_place"]
  d_law_part_of : Dfn K mg "_law_part_of" (topS 55) ["_law_turning_here", "_law_mode", "_law_found", "_law_place"]
theorem hasOf {P : Program} {w : World} {K : PySem.W.Frag} {mg : Str → Option Value} {base : Heap} {x : Str} {st : Stmt} {k : Nat} {ps : List Str} {sp : Sp} (D : Dfn K mg x st ps) (h : ∀ f fd, Fun K x x st f fd → FnOk P w K mg base CX0 k f fd ps sp) : Has P w K mg base x k ps sp := by
  obtain ⟨f, fd, F, m, b⟩ := D.ex
  exact ⟨f, fd, h f fd F, m, F.kp, b⟩
end WK

set_option Elab.async false
set_option linter.all false
set_option maxRecDepth 100000
set_option maxHeartbeats 4000000
namespace WK
open PySem PySem.Spec PyProof.Rows L2 DL TM
/-! tags -/
def tagS : Stump → Str
  | .opn => "open"
  | .put _ _ _ => "put"
def tlS : Stump → List PyData
  | .opn => []
  | .put n m ps => [.str n, .int m, .tuple (encSs ps)]
theorem encS_eq : ∀ s : Stump, encS s = .tuple (.str (tagS s) :: tlS s)
  | .opn => rfl
  | .put _ _ _ => rfl
theorem tagS_open {s : Stump} (h : decide (tagS s = "open") = true) : s = .opn := by
  cases s with
  | opn => rfl
  | put n m ps => exact absurd (of_decide_eq_true h) (show ¬ ("put" : Str) = "open" by decide +kernel)
theorem tagS_put {s : Stump} (h : ¬ decide (tagS s = "open") = true) : ∃ n m ps, s = .put n m ps := by
  cases s with
  | opn => exact absurd (decide_eq_true rfl) h
  | put n m ps => exact ⟨n, m, ps, rfl⟩
/-! ### met -/
def F_met (n : Nat) : List PyData → (PyData → Prop) → Prop := fun ds Ψ => ∃ a b : Stump, ds = [encS a, encS b] ∧ a.ok ∧ b.ok ∧ a.deep ≤ n ∧ b.deep ≤ n ∧ Ψ (encS (met a b))
abbrev sMet : Stmt := topS 2
theorem scMet : FnScope ["one", "other", "a", "b"] ["one", "other"] (defScope sMet) := ⟨rfl, rfl, rfl, by decide +kernel, rfl, by decide +kernel, by decide +kernel⟩
section
variable {P : Program} {w : World} {K : PySem.W.Frag} {mg : Str → Option Value} {base : Heap}
theorem ok_met {n : Nat} (T : Tx K mg) {f : Addr} {fd : FuncData} (Fn : Fun K "met" "met" sMet f fd) (ih : ∀ m, m + 1 = n → Has P w K mg base "met" n ["one", "other"] (spP (F_met m))) :
    FnOk P w K mg base CX0 (n + 1) f fd ["one", "other"] (spP (F_met n)) := by
  refine okP Fn scMet (fun ds Ψ h => by obtain ⟨a, b, rfl, _⟩ := h; rfl) fun cdv A outer s H E hr ds Ψ h => ?_
  obtain ⟨a, b, rfl, oka, okb, da, db, q⟩ := h
  refine dss_cons (ds_if (dt_of (dw_or (dt_cmp op_eq (de_ixc (de_var 0 rfl ⟨_, _, .inl (encS_eq _), rfl, de_str (rd_eqS ⟨_, rfl, ?_⟩)⟩))))))
  refine ite2 (fun c => ?_) (fun c => ?_)
  · refine iteT (dss_cons (ds_ret (de_tup (da_cons (de_str (da_nil ⟨le1 rfl, ?_⟩))))))
    rw [tagS_open c] at q
    rw [met] at q
    exact q
  obtain ⟨n1, m1, ps1, rfl⟩ := tagS_put c
  refine dw_or1 (dt_cmp op_eq (de_ixc (de_var 1 rfl ⟨_, _, .inl (encS_eq _), rfl, de_str (rd_eqS ⟨_, rfl, ?_⟩)⟩)))
  refine ite2 (fun c => ?_) (fun c => ?_)
  · refine dss_cons (ds_ret (de_tup (da_cons (de_str (da_nil ⟨le1 rfl, ?_⟩)))))
    rw [tagS_open c] at q
    rw [met] at q
    exact q
  obtain ⟨n2, m2, ps2, rfl⟩ := tagS_put c
  refine dss_nil ?_
  refine dss_cons (ds_if (dt_of (dw_or (dt_cmp op_ne (de_ixc (de_var 0 rfl ⟨_, _, .inl rfl, rfl, de_ixc (de_var 1 rfl ⟨_, _, .inl rfl, rfl, rd_neS ⟨_, rfl, ?_⟩⟩)⟩))))))
  refine ite2 (fun c => ?_) (fun c1 => ?_)
  · refine iteT (dss_cons (ds_ret (de_tup (da_cons (de_str (da_nil ⟨le1 rfl, ?_⟩))))))
    have hn : ¬ n1 = n2 := by simpa using c
    rw [met, if_neg (fun z => hn z.1)] at q
    exact q
  refine dw_or (dt_cmp op_ne (de_ixc (de_var 0 rfl ⟨_, _, .inl rfl, rfl, de_ixc (de_var 1 rfl ⟨_, _, .inl rfl, rfl, rd_neI ⟨_, rfl, ?_⟩⟩)⟩)))
  refine ite2 (fun c => ?_) (fun c2 => ?_)
  · refine iteT (dss_cons (ds_ret (de_tup (da_cons (de_str (da_nil ⟨le1 rfl, ?_⟩))))))
    have hn : ¬ m1 = m2 := by simpa using c
    rw [met, if_neg (fun z => hn z.2.1)] at q
    exact q
  refine dw_or1 (dt_cmp op_ne (de_len T.z_len (de_ixc (de_var 0 rfl ⟨_, _, .inl rfl, rfl, _, .inr rfl, de_len T.z_len (de_ixc (de_var 1 rfl ⟨_, _, .inl rfl, rfl, _, .inr rfl, rd_neI ⟨_, rfl, ?_⟩⟩))⟩))))
  rw [encSs_len, encSs_len]
  refine ite2 (fun c => ?_) (fun c3 => ?_)
  · refine dss_cons (ds_ret (de_tup (da_cons (de_str (da_nil ⟨le1 rfl, ?_⟩)))))
    have hn : ¬ ps1.length = ps2.length := by simpa [Int.natCast_inj] using c
    rw [met, if_neg (fun z => hn z.2.2)] at q
    exact q
  have e1 : n1 = n2 := by simpa using c1
  have e2 : m1 = m2 := by simpa using c2
  have e3 : ps1.length = ps2.length := by simpa [Int.natCast_inj] using c3
  rw [met, if_pos ⟨e1, e2, e3⟩] at q
  refine dss_nil (dss_cons (ds_ret (de_tup (da_cons (de_str ?_)))))
  refine da_cons (de_ixc (de_var 0 rfl ⟨_, _, .inl rfl, rfl, ?_⟩))
  refine da_cons (de_ixc (de_var 0 rfl ⟨_, _, .inl rfl, rfl, ?_⟩))
  refine da_cons (de_tupleOf T.z_tuple (de_dl (dl_lc2 2 3 (blkOk_by (N := ["one", "other", "a", "b"]) (sc := defScope sMet) (by decide +kernel)) scMet.nd ?_)))
  refine di_zip T.z_zip (de_ixc (de_var 0 rfl ⟨_, _, .inl rfl, rfl, ?_⟩))
  refine de_ixc (de_var 1 rfl ⟨_, _, .inl rfl, rfl, encSs ps1, encSs ps2, .inr ⟨rfl, rfl⟩, ?_⟩)
  have el : (mets ps1 ps2).length = ps1.length := mets_len e3
  refine LcAsk2.res (encSs (mets ps1 ps2)) (by rw [encSs_len]; exact Nat.le_trans oka.2.1 (by decide)) (by rw [encSs_len, encSs_len, el]) (by rw [encSs_len, encSs_len, e3]) (fun i d1 d2 g1 g2 s H0 Cl cl fp => ?_) ⟨_, .inl rfl, da_nil ⟨le1 rfl, q⟩⟩
  rw [encSs_get] at g1 g2
  obtain ⟨p1, hp1, rfl⟩ := Option.map_eq_some_iff.mp g1
  obtain ⟨p2, hp2, rfl⟩ := Option.map_eq_some_iff.mp g2
  have mp1 := List.mem_of_getElem? hp1
  have mp2 := List.mem_of_getElem? hp2
  have d1 : p1.deep ≤ Stump.deeps ps1 := Stump.deep_mem mp1
  have d2 : p2.deep ≤ Stump.deeps ps2 := Stump.deep_mem mp2
  have da' : Stump.deeps ps1 + 1 ≤ n := da
  have db' : Stump.deeps ps2 + 1 ≤ n := db
  refine de_call (ih (n - 1) (by omega)) hr (Nat.le_refl _) (da_cons (de_var 2 rfl (da_cons (de_var 3 rfl (da_nil ⟨p1, p2, rfl, Stump.oks_mem oka.2.2 p1 mp1, Stump.oks_mem okb.2.2 p2 mp2, by omega, by omega, ?_⟩)))))
  rw [encSs_get, mets_get hp1 hp2]
  rfl
theorem has_met (T : Tx K mg) : ∀ n, Has P w K mg base "met" (n + 1) ["one", "other"] (spP (F_met n))
  | 0 => hasOf T.d_met fun f fd Fn => ok_met T Fn fun m h => by omega
  | n + 1 => hasOf T.d_met fun f fd Fn => ok_met T Fn fun m h => by
    have e : m = n := by omega
    subst e
    exact has_met T m
end
end WK

set_option Elab.async false
set_option linter.all false
set_option maxRecDepth 100000
set_option maxHeartbeats 4000000
namespace WK
open PySem PySem.Spec PyProof.Rows L2 DL TM
/-! ### opens -/
theorem opensLs_append : ∀ (k : Nat) (ps qs : List Stump), opensLs k (ps ++ qs) = opensLs k ps ++ opensLs (k + ps.length) qs
  | k, [], qs => by simp [opensLs]
  | k, p :: ps, qs => by
    rw [List.cons_append, opensLs, opensLs, opensLs_append (k + 1) ps qs, List.append_assoc, List.length_cons]
    congr 3
    omega
theorem opensLs_take {ps : List Stump} {i : Nat} {p : Stump} (h : ps[i]? = some p) : opensLs 0 (ps.take (i + 1)) = opensLs 0 (ps.take i) ++ (opensL p).map (i :: ·) := by
  have hi : i < ps.length := (List.getElem?_eq_some_iff.mp h).1
  rw [List.take_add_one, h, opensLs_append, List.length_take, Nat.min_eq_left (by omega)]
  simp [opensLs]
theorem opensLs_le {ps : List Stump} (i : Nat) : (opensLs 0 (ps.take i)).length ≤ (opensLs 0 ps).length := by
  have h : opensLs 0 ps = opensLs 0 (ps.take i ++ ps.drop i) := by rw [List.take_append_drop]
  rw [h, opensLs_append, List.length_append]
  omega
mutual
theorem opensL_len : ∀ (s : Stump) (p : List Nat), p ∈ opensL s → p.length + 1 ≤ s.deep
  | .opn, p, h => by
    have e : p = [] := by simpa [opensL] using h
    subst e
    exact Nat.le_refl _
  | .put _ _ ps, p, h => by
    have := opensLs_len ps 0 p h
    show p.length + 1 ≤ Stump.deeps ps + 1
    omega
theorem opensLs_len : ∀ (ps : List Stump) (k : Nat) (p : List Nat), p ∈ opensLs k ps → p.length ≤ Stump.deeps ps
  | [], _, _, h => by simp [opensLs] at h
  | s :: ps, k, p, h => by
    rw [opensLs, List.mem_append, List.mem_map] at h
    rcases h with ⟨r, hr, rfl⟩ | h
    · have := opensL_len s r hr
      simp only [List.length_cons, Stump.deeps]; omega
    · have := opensLs_len ps (k + 1) p h
      simp only [Stump.deeps]; omega
end
def F_opens (n : Nat) : List PyData → (PyData → Prop) → Prop := fun ds Ψ => ∃ s : Stump, ds = [encS s] ∧ s.ok ∧ s.deep ≤ n ∧ s.deep ≤ 100 ∧ (opensL s).length ≤ 1000 ∧ Ψ (.list ((opensL s).map encP))
abbrev sOpens : Stmt := topS 1
abbrev nOpens : List Str := ["stump", "found", "k", "part", "place"]
theorem scOpens : FnScope nOpens ["stump"] (defScope sOpens) := ⟨rfl, rfl, rfl, by decide +kernel, rfl, by decide +kernel, by decide +kernel⟩
section
variable {P : Program} {w : World} {K : PySem.W.Frag} {mg : Str → Option Value} {base : Heap}
theorem ok_opens {n : Nat} (T : Tx K mg) {f : Addr} {fd : FuncData} (Fn : Fun K "opens" "opens" sOpens f fd) (ih : ∀ m, m + 1 = n → Has P w K mg base "opens" n ["stump"] (spP (F_opens m))) :
    FnOk P w K mg base CX0 (n + 1) f fd ["stump"] (spP (F_opens n)) := by
  refine okP Fn scOpens (fun ds Ψ h => by obtain ⟨a, rfl, _⟩ := h; rfl) fun cdv A outer s H E hr ds Ψ h => ?_
  obtain ⟨s, rfl, ok, hd, hd1, hl, q⟩ := h
  refine dss_cons (ds_if (dt_cmp op_eq (de_ixc (de_var 0 rfl ⟨_, _, .inl (encS_eq _), rfl, de_str (rd_eqS ⟨_, rfl, ?_⟩)⟩))))
  refine ite2 (fun c => ?_) (fun c => ?_)
  · rw [tagS_open c] at q
    exact dss_cons (ds_ret (de_dl (dl_lst (da_cons (de_tup (da_nil ⟨le1 rfl, da_nil ⟨le1 rfl, q⟩⟩))))))
  obtain ⟨n1, m1, ps, rfl⟩ := tagS_put c
  refine dss_nil (dss_cons (ds_own 1 (dl_lst (da_nil ⟨le1 rfl, ?_⟩)) scOpens.nd))
  refine dss_cons (ds_for2 2 3 (di_enumT T.z_enumerate (de_ixc (de_var 0 rfl ⟨_, _, .inl rfl, rfl, _, rfl, ?_⟩))) scOpens.nd PassesOwn.never)
  refine ⟨fun i δ' => ∃ x y z, δ' = [.dt (encS (.put n1 m1 ps)), .ow ((opensLs 0 (ps.take i)).map encP), x, y, z], ⟨_, _, _, rfl⟩, fun i d δ' e hP => ?_, fun δ' hP => ?_⟩
  · obtain ⟨x, y, z, rfl⟩ := hP
    obtain ⟨d1, e1, rfl⟩ := enumD_get e
    rw [encSs_get] at e1
    obtain ⟨p, hp, rfl⟩ := Option.map_eq_some_iff.mp e1
    refine ⟨_, _, rfl, ?_⟩
    have mp := List.mem_of_getElem? hp
    have hdp : p.deep ≤ Stump.deeps ps := Stump.deep_mem mp
    have hd' : Stump.deeps ps + 1 ≤ n := hd
    have hd1' : Stump.deeps ps + 1 ≤ 100 := hd1
    have hle := opensLs_le (ps := ps) (i + 1)
    rw [opensLs_take hp, List.length_append, List.length_map] at hle
    have hl' : (opensLs 0 ps).length ≤ 1000 := hl
    refine dss_cons (ds_for 4 (di_list (de_call (ih (n - 1) (by omega)) hr (Nat.le_refl _) (da_cons (de_var 3 rfl (da_nil ⟨p, rfl, Stump.oks_mem ok.2.2 p mp, by omega, by omega, by omega, ?_⟩))))) scOpens.nd PassesOwn.never)
    refine ⟨_, rfl, fun j δ' => ∃ y, δ' = [.dt (encS (.put n1 m1 ps)), .ow ((opensLs 0 (ps.take i) ++ ((opensL p).take j).map (i :: ·)).map encP), .dt (.int (i : Nat)), .dt (encS p), y], ⟨z, by simp⟩, fun j d δ' e hP => ?_, fun δ' hP => ?_⟩
    · obtain ⟨y, rfl⟩ := hP
      rw [List.getElem?_map] at e
      obtain ⟨pl, hpl, rfl⟩ := Option.map_eq_some_iff.mp e
      have hj : j < (opensL p).length := (List.getElem?_eq_some_iff.mp hpl).1
      refine dss_cons (ds_append 1 rfl (by rw [List.length_map, List.length_append, List.length_map, List.length_take]; omega) ?_)
      refine de_op op_catA (de_tup (da_cons (de_var 2 rfl (da_nil ⟨le1 rfl, de_var 4 rfl (rd_catT ?_ ?_)⟩))))
      · have := opensL_len p pl (List.mem_of_getElem? hpl)
        show 1 + (pl.map encNat).length ≤ 1000000
        rw [List.length_map]; omega
      · refine dss_nil ⟨.dt (encP pl), ?_⟩
        rw [List.take_add_one, hpl]
        simp [encP, encNat]
    · obtain ⟨y, rfl⟩ := hP
      refine dss_nil ⟨.dt (.int (i : Nat)), .dt (encS p), y, ?_⟩
      rw [opensLs_take hp, List.length_map, List.take_length]
  · obtain ⟨x, y, z, rfl⟩ := hP
    refine dss_frz 1 rfl (dss_cons (ds_ret (de_var 1 rfl ?_)))
    rw [enumD_len, encSs_len, List.take_length]
    exact q
theorem has_opens (T : Tx K mg) : ∀ n, Has P w K mg base "opens" (n + 1) ["stump"] (spP (F_opens n))
  | 0 => hasOf T.d_opens fun f fd Fn => ok_opens T Fn fun m h => by omega
  | n + 1 => hasOf T.d_opens fun f fd Fn => ok_opens T Fn fun m h => by
    have e : m = n := by omega
    subst e
    exact has_opens T m
end
end WK

set_option Elab.async false
set_option linter.all false
set_option maxRecDepth 100000
set_option maxHeartbeats 4000000
namespace WK
open PySem PySem.Spec PyProof.Rows L2 DL TM
section
variable {P : Program} {w : World} {K : PySem.W.Frag} {mg : Str → Option Value} {base : Heap}
/-! ### stump_at -/
def F_stumpAt : List PyData → (PyData → Prop) → Prop := fun ds Ψ => ∃ s p x, ds = [encS s, encP p] ∧ stumpAt s p = some x ∧ Ψ (encS x)
abbrev sStumpAt : Stmt := topS 3
abbrev nStumpAt : List Str := ["stump", "place", "here", "k"]
theorem scStumpAt : FnScope nStumpAt ["stump", "place"] (defScope sStumpAt) := ⟨rfl, rfl, rfl, by decide +kernel, rfl, by decide +kernel, by decide +kernel⟩
theorem stumpAt_cons {s x : Stump} {k : Nat} {r : List Nat} (h : stumpAt s (k :: r) = some x) : ∃ n m ps p, s = .put n m ps ∧ ps[k]? = some p ∧ stumpAt p r = some x := by
  cases s with
  | opn => simp [stumpAt] at h
  | put n m ps =>
    cases e : ps[k]? with
    | none => simp [stumpAt, e] at h
    | some p => exact ⟨n, m, ps, p, rfl, e, by simpa [stumpAt, e] using h⟩
theorem has_stumpAt (T : Tx K mg) {lv : Nat} : Has P w K mg base "stump_at" (lv + 1) ["stump", "place"] (spP F_stumpAt) := hasOf T.d_stump_at fun f fd Fn => by
  refine okP Fn scStumpAt (fun ds Ψ h => by obtain ⟨s, p, x, rfl, _⟩ := h; rfl) fun cdv A outer s H E hr ds Ψ h => ?_
  obtain ⟨s, p, x, rfl, hx, q⟩ := h
  refine dss_cons (ds_set 2 (de_var 0 rfl ?_) scStumpAt.nd)
  refine dss_cons (ds_for 3 (di_tup (de_var 1 rfl ⟨_, rfl, ?_⟩)) scStumpAt.nd PassesOwn.never)
  refine ⟨fun i δ' => ∃ y z, stumpAt y (p.drop i) = some x ∧ δ' = [.dt (encS s), .dt (encP p), .dt (encS y), z], ⟨s, .no, by simpa using hx, rfl⟩, fun i d δ' e hP => ?_, fun δ' hP => ?_⟩
  · obtain ⟨y, z, hy, rfl⟩ := hP
    rw [List.getElem?_map] at e
    obtain ⟨k, hk, rfl⟩ := Option.map_eq_some_iff.mp e
    obtain ⟨hi, hk'⟩ := List.getElem?_eq_some_iff.mp hk
    rw [List.drop_eq_getElem_cons hi, hk'] at hy
    obtain ⟨n, m, ps, p', rfl, hp, hy⟩ := stumpAt_cons hy
    refine dss_cons (ds_set 2 (de_ix (de_ixc (de_var 2 rfl ⟨_, _, .inl rfl, rfl, de_var 3 rfl ⟨_, _, encS p', .inr rfl, rfl, atI_c ?_, ?_⟩⟩))) scStumpAt.nd)
    · rw [encSs_get, hp]; rfl
    · exact dss_nil ⟨p', .dt (encNat k), hy, rfl⟩
  · obtain ⟨y, z, hy, rfl⟩ := hP
    rw [List.length_map, List.drop_length] at hy
    have e : y = x := by simpa [stumpAt] using hy
    subst e
    exact dss_cons (ds_ret (de_var 2 rfl q))
/-! ### rows_of -/
def F_rowsOf : List PyData → (PyData → Prop) → Prop := fun ds Ψ => ∃ w k, ds = [encWood w, .str k] ∧ Ψ (encRows (rowsOf w k))
abbrev sRowsOf : Stmt := topS 8
abbrev nRowsOf : List Str := ["wood", "kind", "told", "rows"]
theorem scRowsOf : FnScope nRowsOf ["wood", "kind"] (defScope sRowsOf) := ⟨rfl, rfl, rfl, by decide +kernel, rfl, by decide +kernel, by decide +kernel⟩
theorem has_rowsOf (T : Tx K mg) {lv : Nat} : Has P w K mg base "rows_of" (lv + 1) ["wood", "kind"] (spP F_rowsOf) := hasOf T.d_rows_of fun f fd Fn => by
  refine okP Fn scRowsOf (fun ds Ψ h => by obtain ⟨s, p, rfl, _⟩ := h; rfl) fun cdv A outer s H E hr ds Ψ h => ?_
  obtain ⟨w, k, rfl, q⟩ := h
  refine dss_cons (ds_for2 2 3 (di_list (de_var 0 rfl ⟨_, rfl, ?_⟩)) scRowsOf.nd PassesOwn.never)
  refine ⟨fun i δ' => ∃ y z, rowsOf w k = rowsOf (w.drop i) k ∧ δ' = [.dt (encWood w), .dt (.str k), y, z], ⟨.no, .no, rfl, rfl⟩, fun i d δ' e hP => ?_, fun δ' hP => ?_⟩
  · obtain ⟨y, z, hy, rfl⟩ := hP
    rw [List.getElem?_map] at e
    obtain ⟨kr, hk, rfl⟩ := Option.map_eq_some_iff.mp e
    obtain ⟨hi, hk'⟩ := List.getElem?_eq_some_iff.mp hk
    rw [List.drop_eq_getElem_cons hi, hk'] at hy
    obtain ⟨told, rows⟩ := kr
    refine ⟨_, _, rfl, dss_cons (ds_if (dt_cmp op_eq (de_var 2 rfl (de_var 1 rfl (rd_eqS ⟨_, rfl, ?_⟩)))))⟩
    refine ite2 (fun c => ?_) (fun c => ?_)
    · have e : told = k := of_decide_eq_true c
      rw [rowsOf, if_pos e] at hy
      rw [hy] at q
      exact dss_cons (ds_ret (de_var 3 rfl q))
    · have e : ¬ told = k := fun z => c (decide_eq_true z)
      rw [rowsOf, if_neg e] at hy
      exact dss_nil (dss_nil ⟨_, _, hy, rfl⟩)
  · obtain ⟨y, z, hy, rfl⟩ := hP
    rw [List.length_map, List.drop_length] at hy
    rw [hy] at q
    exact dss_cons (ds_ret (de_dl (dl_lst (da_nil ⟨le1 rfl, q⟩))))
/-! ### leaf_of -/
structure RowsOk (rows : List TM.Row) : Prop where
  len : rows.length ≤ 1000
  nm : ∀ r ∈ rows, PyData.strOk r.1 = true ∧ r.2.length ≤ 1000 ∧ ∀ b ∈ r.2, PyData.strOk b = true
  bare : ∃ r ∈ rows, r.2 = []
theorem shaped_strs {ks : List Str} (h : ∀ b ∈ ks, PyData.strOk b = true) : SeqAt.shaped (.tuple (ks.map encStr)) = true := by
  have key : ∀ ks : List Str, (∀ b ∈ ks, PyData.strOk b = true) → PyData.canLayAll0 (ks.map encStr) = true ∧ PyData.depthAll (ks.map encStr) = 0 := by
    intro ks
    induction ks with
    | nil => intro _; simp [PyData.canLayAll0, PyData.depthAll]
    | cons k ks ih =>
      intro h
      obtain ⟨h1, h2⟩ := ih fun b hb => h b (List.mem_cons_of_mem _ hb)
      simp [List.map_cons, PyData.canLayAll0, PyData.depthAll, encStr, PyData.canLay0, PyData.depth, h1, h2, h k List.mem_cons_self]
  obtain ⟨h1, h2⟩ := key ks h
  refine (shaped_iff _).mpr ⟨?_, ?_⟩
  · rw [PyData.canLay0]; exact h1
  · rw [PyData.depth, h2]; omega
theorem shaped_nil : SeqAt.shaped (.tuple []) = true := by decide
theorem eqv_nil (ks : List Str) : PyData.eqv (.tuple (ks.map encStr)) (.tuple []) = ks.isEmpty := by cases ks <;> rfl
def F_leafOf : List PyData → (PyData → Prop) → Prop := fun ds Ψ => ∃ w k, ds = [encWood w, .str k] ∧ RowsOk (rowsOf w k) ∧ Ψ (encR (leafOf w k))
abbrev sLeafOf : Stmt := topS 9
abbrev nLeafOf : List Str := ["wood", "kind", "bare", "name", "branches"]
theorem scLeafOf : FnScope nLeafOf ["wood", "kind"] (defScope sLeafOf) := ⟨rfl, rfl, rfl, by decide +kernel, rfl, by decide +kernel, by decide +kernel⟩
theorem has_leafOf (T : Tx K mg) {lv : Nat} : Has P w K mg base "leaf_of" (lv + 2) ["wood", "kind"] (spP F_leafOf) := hasOf T.d_leaf_of fun f fd Fn => by
  refine okP Fn scLeafOf (fun ds Ψ h => by obtain ⟨s, p, rfl, _⟩ := h; rfl) fun cdv A outer s H E hr ds Ψ h => ?_
  obtain ⟨w, k, rfl, ok, q⟩ := h
  refine dss_cons (ds_lc2 2 3 4 (blkOk_by (N := nLeafOf) (sc := defScope sLeafOf) (by decide +kernel)) scLeafOf.nd ?_ (sw_true rfl rfl rfl (by decide +kernel)))
  refine di_list (de_call (has_rowsOf T (lv := lv)) hr (Nat.le_refl _) (da_cons (de_var 0 rfl (da_cons (de_var 1 rfl (da_nil ⟨w, k, rfl, ?_⟩))))))
  rw [encRows]
  refine ⟨_, rfl, ?_⟩
  refine ⟨by rw [List.length_map]; exact Nat.le_trans ok.len (by decide), fun i acc => acc = ((((rowsOf w k).take i).filter isBare).map (·.1)).map encStr, by simp, fun i d acc e1 e2 => ?_, fun acc e => ?_⟩
  · rw [List.getElem?_map] at e1
    obtain ⟨r, hr1, rfl⟩ := Option.map_eq_some_iff.mp e1
    have mr := List.mem_of_getElem? hr1
    obtain ⟨k1, k2, k3⟩ := ok.nm r mr
    refine ⟨_, _, rfl, fun s H0 Cl cl fp => ?_⟩
    refine dt_cmp (op_eqD hr.units) (de_var 4 rfl (de_tup (da_nil ⟨le1 rfl, rd_eqD (shaped_strs k3) shaped_nil ⟨_, rfl, ?_⟩⟩)))
    rw [eqv_nil]
    refine ite2 (fun c => fun s H0 Cl cl fp => de_var 3 rfl ?_) (fun c => ?_)
    · show _ = (((((rowsOf w k).take (i + 1)).filter isBare).map (·.1)).map encStr)
      rw [e2, List.take_add_one, hr1, List.filter_append, List.map_append, List.map_append]
      show _ = _ ++ (((([r] : List TM.Row).filter isBare).map (·.1)).map encStr)
      rw [List.filter_cons, if_pos (show isBare r = true from c)]
      rfl
    · show _ = (((((rowsOf w k).take (i + 1)).filter isBare).map (·.1)).map encStr)
      rw [e2, List.take_add_one, hr1, List.filter_append, List.map_append, List.map_append]
      show _ = _ ++ (((([r] : List TM.Row).filter isBare).map (·.1)).map encStr)
      rw [List.filter_cons, if_neg (show ¬ isBare r = true from c)]
      simp
  · rw [List.length_map, List.take_length] at e
    obtain ⟨r, hr1, hr2⟩ := ok.bare
    have hm : r ∈ (rowsOf w k).filter isBare := List.mem_filter.mpr ⟨hr1, by unfold isBare; rw [hr2]; rfl⟩
    have hq : leafOf w k = .node ((((rowsOf w k).filter isBare).map (·.1)).headD ⟨#[]⟩) 0 [] := rfl
    rw [hq] at q
    rw [e]
    cases hf : (rowsOf w k).filter isBare with
    | nil => rw [hf] at hm; cases hm
    | cons r0 rs =>
      rw [hf] at q
      refine dss_frz 2 rfl (dss_cons (ds_ret (de_tup (da_cons (de_ixc (de_var 2 rfl ⟨_, _, .inr rfl, rfl, da_cons (de_int (da_cons (de_tup (da_nil ⟨le1 rfl, da_nil ⟨le1 rfl, q⟩⟩))))⟩))))))
/-! ### stump_in -/
def F_stumpIn (n : Nat) : List PyData → (PyData → Prop) → Prop := fun ds Ψ => ∃ S t, ds = [encT t, .list (encSs S)] ∧ t.ok ∧ t.deep ≤ n ∧ t.calls (fun m _ => m < S.length) ∧ Ψ (encS (stumpIn S t))
def tagT : Term → Str
  | .call _ _ => "call"
  | .put _ _ _ _ => "put"
def tlT : Term → List PyData
  | .call m b => [.int (m : Nat), .int (b : Nat)]
  | .put n k a ps => [.str n, .bool k, .int a, .tuple (encTs ps)]
theorem encT_eq : ∀ s : Term, encT s = .tuple (.str (tagT s) :: tlT s)
  | .call _ _ => rfl
  | .put _ _ _ _ => rfl
theorem tagT_call {s : Term} (h : decide (tagT s = "call") = true) : ∃ m b, s = .call m b := by
  cases s with
  | call m b => exact ⟨m, b, rfl⟩
  | put n k m ps => exact absurd (of_decide_eq_true h) (show ¬ ("put" : Str) = "call" by decide +kernel)
theorem tagT_put {s : Term} (h : ¬ decide (tagT s = "call") = true) : ∃ n k m ps, s = .put n k m ps := by
  cases s with
  | call m b => exact absurd (decide_eq_true rfl) h
  | put n k m ps => exact ⟨n, k, m, ps, rfl⟩
abbrev sStumpIn : Stmt := topS 11
abbrev nStumpIn : List Str := ["term", "stumps", "part"]
theorem scStumpIn : FnScope nStumpIn ["term", "stumps"] (defScope sStumpIn) := ⟨rfl, rfl, rfl, by decide +kernel, rfl, by decide +kernel, by decide +kernel⟩
theorem ok_stumpIn {n : Nat} (T : Tx K mg) {f : Addr} {fd : FuncData} (Fn : Fun K "stump_in" "stump_in" sStumpIn f fd) (ih : ∀ m, m + 1 = n → Has P w K mg base "stump_in" n ["term", "stumps"] (spP (F_stumpIn m))) :
    FnOk P w K mg base CX0 (n + 1) f fd ["term", "stumps"] (spP (F_stumpIn n)) := by
  refine okP Fn scStumpIn (fun ds Ψ h => by obtain ⟨s, p, rfl, _⟩ := h; rfl) fun cdv A outer s H E hr ds Ψ h => ?_
  obtain ⟨S, t, rfl, ok, hd, hc, q⟩ := h
  refine dss_cons (ds_if (dt_cmp op_eq (de_ixc (de_var 0 rfl ⟨_, _, .inl (encT_eq _), rfl, de_str (rd_eqS ⟨_, rfl, ?_⟩)⟩))))
  refine ite2 (fun c => ?_) (fun c => ?_)
  · obtain ⟨m, b, rfl⟩ := tagT_call c
    have hm : m < S.length := hc
    refine dss_cons (ds_ret (de_ix (de_var 1 rfl (de_ixc (de_var 0 rfl ⟨_, _, .inl rfl, rfl, encSs S, (m : Nat), encS (stumpIn S (.call m b)), .inl rfl, rfl, atI_c ?_, q⟩)))))
    rw [encSs_get, List.getElem?_eq_getElem hm, stumpIn, List.getD_eq_getElem?_getD, List.getElem?_eq_getElem hm]
    rfl
  obtain ⟨n1, k1, m1, ps, rfl⟩ := tagT_put c
  refine dss_nil (dss_cons (ds_if (dt_val (de_ixc (de_var 0 rfl ⟨_, _, .inl rfl, rfl, k1, rfl, ?_⟩)))))
  refine ite2 (fun c => ?_) (fun c => ?_)
  · rw [stumpIn, if_pos c] at q
    exact dss_cons (ds_ret (de_tup (da_cons (de_str (da_nil ⟨le1 rfl, q⟩)))))
  rw [stumpIn, if_neg c, stumpIns_map] at q
  refine dss_nil (dss_cons (ds_ret (de_tup (da_cons (de_str ?_)))))
  refine da_cons (de_ixc (de_var 0 rfl ⟨_, _, .inl rfl, rfl, ?_⟩))
  refine da_cons (de_ixc (de_var 0 rfl ⟨_, _, .inl rfl, rfl, ?_⟩))
  refine da_cons (de_tupleOf T.z_tuple (de_dl (dl_lc 2 (blkOk_by (N := nStumpIn) (sc := defScope sStumpIn) (by decide +kernel)) scStumpIn.nd ?_)))
  refine di_tup (de_ixc (de_var 0 rfl ⟨_, _, .inl rfl, rfl, _, rfl, ?_⟩))
  refine LcAsk.res (encSs (ps.map (stumpIn S))) (by rw [encTs_len]; exact Nat.le_trans ok.2.1 (by decide)) (by rw [encSs_len, encTs_len, List.length_map]) (fun i d1 g1 s H0 Cl cl fp => ?_) ⟨_, .inl rfl, da_nil ⟨le1 rfl, q⟩⟩
  rw [encTs_get] at g1
  obtain ⟨p1, hp1, rfl⟩ := Option.map_eq_some_iff.mp g1
  have mp1 := List.mem_of_getElem? hp1
  have d1 : p1.deep ≤ Term.deeps ps := Term.deep_mem mp1
  have hd' : Term.deeps ps + 1 ≤ n := hd
  refine de_call (ih (n - 1) (by omega)) hr (Nat.le_refl _) (da_cons (de_var 2 rfl (da_cons (de_var 1 rfl (da_nil ⟨S, p1, rfl, Term.oks_mem ok.2.2 p1 mp1, by omega, Term.callss_mem hc p1 mp1, ?_⟩)))))
  rw [encSs_get, List.getElem?_map, hp1]
  rfl
theorem has_stumpIn (T : Tx K mg) : ∀ n, Has P w K mg base "stump_in" (n + 1) ["term", "stumps"] (spP (F_stumpIn n))
  | 0 => hasOf T.d_stump_in fun f fd Fn => ok_stumpIn T Fn fun m h => by omega
  | n + 1 => hasOf T.d_stump_in fun f fd Fn => ok_stumpIn T Fn fun m h => by
    have e : m = n := by omega
    subst e
    exact has_stumpIn T m
/-! ### met_of -/
def F_metOf (D : Nat) : List PyData → (PyData → Prop) → Prop := fun ds Ψ => ∃ l : List Stump, ds = [.list (encSs l)] ∧ l ≠ [] ∧ (∀ s ∈ l, s.ok ∧ s.deep ≤ D) ∧ Ψ (encS (metOf l))
abbrev sMetOf : Stmt := topS 12
abbrev nMetOf : List Str := ["stumps", "found", "stump"]
theorem scMetOf : FnScope nMetOf ["stumps"] (defScope sMetOf) := ⟨rfl, rfl, rfl, by decide +kernel, rfl, by decide +kernel, by decide +kernel⟩
theorem has_metOf (T : Tx K mg) {D : Nat} : Has P w K mg base "met_of" (D + 2) ["stumps"] (spP (F_metOf D)) := hasOf T.d_met_of fun f fd Fn => by
  refine okP Fn scMetOf (fun ds Ψ h => by obtain ⟨s, rfl, _⟩ := h; rfl) fun cdv A outer s H E hr ds Ψ h => ?_
  obtain ⟨l, rfl, hn, ok, q⟩ := h
  cases l with
  | nil => exact absurd rfl hn
  | cons a l =>
    have oka := ok a List.mem_cons_self
    refine dss_cons (ds_set 1 (de_ixc (de_var 0 rfl ⟨_, _, .inr rfl, rfl, ?_⟩)) scMetOf.nd)
    refine dss_cons (ds_for 2 (di_list (de_dl (dl_sliceL (de_var 0 rfl (de_int ⟨_, 1, rfl, rfl, Nat.le_add_left 1 _, _, rfl, ?_⟩))))) scMetOf.nd PassesOwn.never)
    refine ⟨fun i δ' => ∃ z, δ' = [.dt (.list (encSs (a :: l))), .dt (encS ((l.take i).foldl met a)), z], ⟨_, rfl⟩, fun i d δ' e hP => ?_, fun δ' hP => ?_⟩
    · obtain ⟨z, rfl⟩ := hP
      have e' : (encSs l)[i]? = some d := by simpa [encSs] using e
      rw [encSs_get] at e'
      obtain ⟨b, hb, rfl⟩ := Option.map_eq_some_iff.mp e'
      have okb := ok b (List.mem_cons_of_mem _ (List.mem_of_getElem? hb))
      obtain ⟨g1, g2⟩ := foldl_met_ok (l.take i) a oka.1
      refine dss_cons (ds_set 1 (de_call (has_met T D) hr (Nat.le_refl _) (da_cons (de_var 1 rfl (da_cons (de_var 2 rfl (da_nil ⟨_, b, rfl, g1, okb.1, by omega, okb.2, ?_⟩)))))) scMetOf.nd)
      refine dss_nil ⟨.dt (encS b), ?_⟩
      rw [List.take_add_one, hb, List.foldl_append]
      rfl
    · obtain ⟨z, rfl⟩ := hP
      have hl : ((encSs (a :: l)).drop 1).length = l.length := by simp [encSs, encSs_len]
      rw [hl, List.take_length]
      exact dss_cons (ds_ret (de_var 1 rfl q))
end
end WK

set_option Elab.async false
set_option linter.all false
set_option maxRecDepth 100000
set_option maxHeartbeats 4000000
namespace WK
open PySem PySem.Spec PyProof.Rows L2 DL TM
section
variable {P : Program} {w : World} {K : PySem.W.Frag} {mg : Str → Option Value} {base : Heap}
/-! ### first_commons -/
def baresZ (l : List (TM.Row × Term)) : List Stump := (l.filter fun p => isBare p.1).map fun p => stumpIn [] p.2
theorem baresZ_take {l : List (TM.Row × Term)} {j : Nat} {p : TM.Row × Term} (h : l[j]? = some p) : baresZ (l.take (j + 1)) = baresZ (l.take j) ++ (if isBare p.1 then [stumpIn [] p.2] else []) := by
  unfold baresZ
  rw [List.take_add_one, h, List.filter_append, List.map_append]
  show _ ++ List.map _ (List.filter _ [p]) = _
  rw [List.filter_cons]
  cases isBare p.1 <;> rfl
theorem baresZ_len (l : List (TM.Row × Term)) : (baresZ l).length ≤ l.length := by
  unfold baresZ
  rw [List.length_map]
  exact List.length_filter_le _ _
def F_first : List PyData → (PyData → Prop) → Prop := fun ds Ψ => ∃ T : Turning, WF T ∧ ds = [encTurning T] ∧ Ψ (.list (encSs (first T)))
abbrev sFirst : Stmt := topS 13
abbrev nFirst : List Str := ["turning", "found", "kind", "rules", "bare", "row", "rule"]
theorem scFirst : FnScope nFirst ["turning"] (defScope sFirst) := ⟨rfl, rfl, rfl, by decide +kernel, rfl, by decide +kernel, by decide +kernel⟩
theorem has_first (T : Tx K mg) : Has P w K mg base "first_commons" 11 ["turning"] (spP F_first) := hasOf T.d_first_commons fun f fd Fn => by
  refine okP Fn scFirst (fun ds Ψ h => by obtain ⟨s, _, rfl, _⟩ := h; rfl) fun cdv A outer s H E hr ds Ψ h => ?_
  obtain ⟨t, W, rfl, q⟩ := h
  refine dss_cons (ds_own 1 (dl_lst (da_nil ⟨le1 rfl, ?_⟩)) scFirst.nd)
  refine dss_cons (ds_for2 2 3 (di_list (de_ixc (de_var 0 rfl ⟨_, _, .inl rfl, rfl, _, rfl, ?_⟩))) scFirst.nd PassesOwn.never)
  have hfl : (first t).length = t.modes.length := by unfold first; rw [List.length_map]
  have hf4 := W.few
  refine ⟨fun i δ' => ∃ x y z u v, δ' = [.dt (encTurning t), .ow (encSs ((first t).take i)), x, y, z, u, v], ⟨_, _, _, _, _, rfl⟩, fun i d δ' e hP => ?_, fun δ' hP => ?_⟩
  · obtain ⟨x, y, z, u, v, rfl⟩ := hP
    rw [List.getElem?_map] at e
    obtain ⟨md, hm, rfl⟩ := Option.map_eq_some_iff.mp e
    have mm := List.mem_of_getElem? hm
    refine ⟨_, _, rfl, dss_cons (ds_own 4 (dl_lst (da_nil ⟨le1 rfl, ?_⟩)) scFirst.nd)⟩
    refine dss_cons (ds_for2 5 6 (di_zip T.z_zip (de_call (has_rowsOf T (lv := 9)) hr (Nat.le_refl _) (da_cons (de_ixc (de_var 0 rfl ⟨_, _, .inl rfl, rfl, da_cons (de_var 2 rfl (da_nil ⟨t.wood, md.1, rfl, ?_⟩))⟩))))) scFirst.nd PassesOwn.never)
    refine de_var 3 rfl ⟨_, _, .inl ⟨rfl, rfl⟩, ?_⟩
    have hrl : (rowsOf t.wood md.1).length ≤ 3 := W.wood.len md.1 (W.kind md mm)
    refine ⟨fun j δ' => ∃ u v, δ' = [.dt (encTurning t), .ow (encSs ((first t).take i)), .dt (.str md.1), .dt (.list (encTs md.2)), .ow (encSs (baresZ (((rowsOf t.wood md.1).zip md.2).take j))), u, v], ⟨u, v, rfl⟩, fun j d δ' e hP => ?_, fun δ' hP => ?_⟩
    · obtain ⟨u, v, rfl⟩ := hP
      obtain ⟨d1, d2, g1, g2, rfl⟩ := zipD_get e
      rw [List.getElem?_map] at g1
      obtain ⟨r, hr1, rfl⟩ := Option.map_eq_some_iff.mp g1
      rw [encTs_get] at g2
      obtain ⟨tm, htm, rfl⟩ := Option.map_eq_some_iff.mp g2
      have hz : ((rowsOf t.wood md.1).zip md.2)[j]? = some (r, tm) := List.getElem?_zip_eq_some.mpr ⟨hr1, htm⟩
      have rk := W.rule md mm j r tm hr1 htm
      have rw1 := W.wood.row md.1 (W.kind md mm) r (List.mem_of_getElem? hr1)
      refine ⟨_, _, rfl, dss_cons (ds_if (dt_cmp (op_eqD hr.units) (de_ixc (de_var 5 rfl ⟨_, _, .inl rfl, rfl, de_tup (da_nil ⟨le1 rfl, rd_eqD (shaped_strs ?_) shaped_nil ⟨_, rfl, ?_⟩⟩)⟩))))⟩
      · intro b hb
        exact W.wood.nm b (rw1.2.2 b hb)
      rw [eqv_nil]
      refine ite2 (fun c => ?_) (fun c => ?_)
      · have er : r.2 = [] := List.isEmpty_iff.mp c
        have hj : j < (rowsOf t.wood md.1).length := (List.getElem?_eq_some_iff.mp hr1).1
        refine dss_cons (ds_append 4 rfl ?_ (de_call (has_stumpIn T 3) hr (by decide) (da_cons (de_var 6 rfl (da_cons (de_dl (dl_lst (da_nil ⟨le1 rfl, da_nil ⟨[], tm, rfl, rk.ok, rk.deep, ?_, ?_⟩⟩))))))))
        · rw [encSs_len]
          have := baresZ_len (((rowsOf t.wood md.1).zip md.2).take j)
          rw [List.length_take] at this
          omega
        · exact Term.calls_imp (fun _ _ z => z.elim) tm (rk.nocall er)
        · refine dss_nil (dss_nil ⟨.dt (encRow r), .dt (encT tm), ?_⟩)
          rw [baresZ_take hz, if_pos (show isBare r = true from c), encSs_app]
          rfl
      · refine dss_nil (dss_nil ⟨.dt (encRow r), .dt (encT tm), ?_⟩)
        rw [baresZ_take hz, if_neg (show ¬ isBare r = true from c), List.append_nil]
        rfl
    · obtain ⟨u, v, rfl⟩ := hP
      have hlen : (zipD ((rowsOf t.wood md.1).map encRow) (encTs md.2)).length = ((rowsOf t.wood md.1).zip md.2).length := by
        unfold zipD; rw [List.length_zipWith, List.length_map, encTs_len, List.length_zip]
      rw [hlen, List.take_length]
      have hb : baresZ ((rowsOf t.wood md.1).zip md.2) = bares (rowsOf t.wood md.1) md.2 := rfl
      rw [hb]
      refine dss_frz 4 rfl (dss_cons (ds_append 1 rfl ?_ (de_call (has_metOf T (D := 8)) hr (Nat.le_refl _) (da_cons (de_var 4 rfl (da_nil ⟨bares (rowsOf t.wood md.1) md.2, rfl, W.bares_ne mm, ?_, ?_⟩))))))
      · rw [encSs_len, List.length_take, hfl]; omega
      · intro x hx
        obtain ⟨j, r, tm, g1, g2, g3, g4, rfl⟩ := W.mem_bares mm hx
        obtain ⟨q1, q2⟩ := stumpIn_ok (S := []) (D := 0) (fun _ z => by cases z) tm g4.ok
        have := g4.deep
        exact ⟨q1, by omega⟩
      · refine dss_nil ⟨.dt (.str md.1), .dt (.list (encTs md.2)), .dt (.list (encSs (bares (rowsOf t.wood md.1) md.2))), u, v, ?_⟩
        have hg : (first t)[i]? = some (metOf (bares (rowsOf t.wood md.1) md.2)) := by unfold first; rw [List.getElem?_map, hm]; rfl
        rw [List.take_add_one, hg, encSs_app]
        rfl
  · obtain ⟨x, y, z, u, v, rfl⟩ := hP
    rw [List.length_map, ← hfl, List.take_length]
    exact dss_frz 1 rfl (dss_cons (ds_ret (de_var 1 rfl q)))
/-! ### next_commons -/
def F_next : List PyData → (PyData → Prop) → Prop := fun ds Ψ => ∃ (T : Turning) (S : List Stump), WF T ∧ S.length = T.modes.length ∧ (∀ s ∈ S, s.ok ∧ s.deep ≤ 3) ∧ ds = [encTurning T, .list (encSs S)] ∧ Ψ (.list (encSs (next T S)))
abbrev sNext : Stmt := topS 14
abbrev nNext : List Str := ["turning", "stumps", "found", "mode", "rule"]
theorem scNext : FnScope nNext ["turning", "stumps"] (defScope sNext) := ⟨rfl, rfl, rfl, by decide +kernel, rfl, by decide +kernel, by decide +kernel⟩
theorem has_next (T : Tx K mg) : Has P w K mg base "next_commons" 11 ["turning", "stumps"] (spP F_next) := hasOf T.d_next_commons fun f fd Fn => by
  refine okP Fn scNext (fun ds Ψ h => by obtain ⟨s, S, _, _, _, rfl, _⟩ := h; rfl) fun cdv A outer s H E hr ds Ψ h => ?_
  obtain ⟨t, S, W, hS, okS, rfl, q⟩ := h
  have hfl : (next t S).length = t.modes.length := by unfold next; rw [List.length_map]
  have hf4 := W.few
  refine dss_cons (ds_own 2 (dl_lst (da_nil ⟨le1 rfl, ?_⟩)) scNext.nd)
  refine dss_cons (ds_for 3 (di_list (de_ixc (de_var 0 rfl ⟨_, _, .inl rfl, rfl, _, rfl, ?_⟩))) scNext.nd PassesOwn.never)
  refine ⟨fun i δ' => ∃ x y, δ' = [.dt (encTurning t), .dt (.list (encSs S)), .ow (encSs ((next t S).take i)), x, y], ⟨_, _, rfl⟩, fun i d δ' e hP => ?_, fun δ' hP => ?_⟩
  · obtain ⟨x, y, rfl⟩ := hP
    rw [List.getElem?_map] at e
    obtain ⟨md, hm, rfl⟩ := Option.map_eq_some_iff.mp e
    have mm := List.mem_of_getElem? hm
    have hrl : md.2.length ≤ 3 := by rw [W.len md mm]; exact W.wood.len md.1 (W.kind md mm)
    refine dss_cons (ds_append 2 rfl ?_ (de_call (has_metOf T (D := 8)) hr (Nat.le_refl _) (da_cons (de_dl (dl_lc 4 (blkOk_by (N := nNext) (sc := defScope sNext) (by decide +kernel)) scNext.nd ?_)))))
    · rw [encSs_len, List.length_take, hfl]; omega
    refine di_list (de_ixc (de_var 3 rfl ⟨_, _, .inl rfl, rfl, _, rfl, ?_⟩))
    refine LcAsk.res (encSs (md.2.map (stumpIn S))) (by rw [encTs_len]; omega) (by rw [encSs_len, encTs_len, List.length_map]) (fun j d1 g1 s H0 Cl cl fp => ?_) (da_nil ⟨md.2.map (stumpIn S), rfl, by simpa using W.rules_ne mm, ?_, ?_⟩)
    · rw [encTs_get] at g1
      obtain ⟨tm, htm, rfl⟩ := Option.map_eq_some_iff.mp g1
      obtain ⟨j', r, _, _, rk⟩ := W.ruleRow mm (List.mem_of_getElem? htm)
      refine de_call (has_stumpIn T 3) hr (by decide) (da_cons (de_var 4 rfl (da_cons (de_var 1 rfl (da_nil ⟨S, tm, rfl, rk.ok, rk.deep, ?_, ?_⟩)))))
      · refine Term.calls_imp (fun m b ⟨md', z, _⟩ => ?_) tm rk.calls
        rw [hS]
        exact (List.getElem?_eq_some_iff.mp z).1
      · rw [encSs_get, List.getElem?_map, htm]
        rfl
    · intro x hx
      obtain ⟨tm, htm, rfl⟩ := List.mem_map.mp hx
      obtain ⟨j', r, _, _, rk⟩ := W.ruleRow mm htm
      obtain ⟨q1, q2⟩ := stumpIn_ok okS tm rk.ok
      have := rk.deep
      exact ⟨q1, by omega⟩
    · refine dss_nil ⟨.dt (encMode md), y, ?_⟩
      have hg : (next t S)[i]? = some (metOf (md.2.map (stumpIn S))) := by unfold next; rw [List.getElem?_map, hm]; rfl
      rw [List.take_add_one, hg, encSs_app]
      rfl
  · obtain ⟨x, y, rfl⟩ := hP
    rw [List.length_map, ← hfl, List.take_length]
    exact dss_frz 2 rfl (dss_cons (ds_ret (de_var 2 rfl q)))
/-! ### commons -/
def F_commons : List PyData → (PyData → Prop) → Prop := fun ds Ψ => ∃ T : Turning, WF T ∧ ds = [encTurning T] ∧ ∀ N, N ≤ 36 → lev T (N + 1) = lev T N → (∀ i, i < N → lev T (i + 1) ≠ lev T i) → Ψ (.list (encSs (lev T N)))
abbrev sCommons : Stmt := topS 17
abbrev nCommons : List Str := ["turning", "found", "further"]
theorem scCommons : FnScope nCommons ["turning"] (defScope sCommons) := ⟨rfl, rfl, rfl, by decide +kernel, rfl, by decide +kernel, by decide +kernel⟩
theorem lev_shaped {t : Turning} (W : WF t) (i : Nat) : SeqAt.shaped (.list (encSs (lev t i))) = true :=
  shaped_Ss (Stump.oks_of fun s hs => (lev_ok W i s hs).1) (Nat.le_trans (Stump.deeps_le fun s hs => (lev_ok W i s hs).2) (by decide))
theorem eqv_lists (S S' : List Stump) : PyData.eqv (.list (encSs S)) (.list (encSs S')) = true ↔ S = S' := by
  rw [PyData.eqv]
  exact eqv_encSs S S'
theorem has_commons (T : Tx K mg) : Has P w K mg base "commons" 12 ["turning"] (spP F_commons) := hasOf T.d_commons fun f fd Fn => by
  refine okP Fn scCommons (fun ds Ψ h => by obtain ⟨s, _, rfl, _⟩ := h; rfl) fun cdv A outer s H E hr ds Ψ h => ?_
  obtain ⟨t, W, rfl, q⟩ := h
  have nxt : ∀ (i : Nat) (Ψ : PyData → Prop), Ψ (.list (encSs (lev t (i + 1)))) → F_next [encTurning t, .list (encSs (lev t i))] Ψ := fun i Ψ h => ⟨t, lev t i, W, lev_len W i, lev_ok W i, rfl, h⟩
  refine dss_cons (ds_set 1 (de_call (has_first T) hr (Nat.le_refl _) (da_cons (de_var 0 rfl (da_nil ⟨t, W, rfl, ?_⟩)))) scCommons.nd)
  refine dss_cons (ds_set 2 (de_call (has_next T) hr (Nat.le_refl _) (da_cons (de_var 0 rfl (da_cons (de_var 1 rfl (da_nil (nxt 0 _ ?_))))))) scCommons.nd)
  refine dss_cons (ds_while (fun m δ' => ∃ i, i + m = 37 ∧ (∀ j, j < i → lev t (j + 1) ≠ lev t j) ∧ δ' = [.dt (encTurning t), .dt (.list (encSs (lev t i))), .dt (.list (encSs (lev t (i + 1))))]) 37 ⟨0, rfl, fun j h => by omega, rfl⟩ (fun m δ' hP => ?_) PassesOwn.never)
  obtain ⟨i, hi, hne, rfl⟩ := hP
  have hst := tp_steps W i hne
  refine dt_cmp (op_neD hr.units) (de_var 2 rfl (de_var 1 rfl (rd_neD (lev_shaped W _) (lev_shaped W _) ⟨_, rfl, ?_⟩)))
  refine ite2 (fun c => ?_) (fun c => ?_)
  · have e : lev t (i + 1) ≠ lev t i := fun z => by rw [(eqv_lists _ _).mpr z] at c; cases c
    refine dss_cons (ds_set 1 (de_var 2 rfl ?_) scCommons.nd)
    refine dss_cons (ds_set 2 (de_call (has_next T) hr (Nat.le_refl _) (da_cons (de_var 0 rfl (da_cons (de_var 1 rfl (da_nil (nxt (i + 1) _ ?_))))))) scCommons.nd)
    refine dss_nil ⟨m - 1, by omega, i + 1, by omega, fun j hj => ?_, rfl⟩
    rcases Nat.lt_succ_iff_lt_or_eq.mp hj with hj | rfl
    · exact hne j hj
    · exact e
  · have e : lev t (i + 1) = lev t i := (eqv_lists _ _).mp (by simpa using c)
    exact dss_cons (ds_ret (de_var 1 rfl (q i (by omega) e hne)))
/-! ### by_levels -/
/-- the lists within 1, 2, .. levels -/
def tabs (T : Turning) (n : Nat) : List PyData := (List.range n).map fun i => .list (encSs (lev T i))
theorem tabs_len (T : Turning) (n : Nat) : (tabs T n).length = n := by unfold tabs; rw [List.length_map, List.length_range]
theorem tabs_get (T : Turning) {n i : Nat} (h : i < n) : (tabs T n)[i]? = some (.list (encSs (lev T i))) := by unfold tabs; rw [List.getElem?_map, List.getElem?_range h]; rfl
theorem tabs_succ (T : Turning) (n : Nat) : tabs T (n + 1) = tabs T n ++ [.list (encSs (lev T n))] := by unfold tabs; rw [List.range_succ, List.map_append]; rfl
def F_byLevels : List PyData → (PyData → Prop) → Prop := fun ds Ψ => ∃ T : Turning, WF T ∧ ds = [encTurning T, .int 40] ∧ ∀ N, N ≤ 36 → lev T (N + 1) = lev T N → (∀ i, i < N → lev T (i + 1) ≠ lev T i) → Ψ (.list (tabs T (N + 1)))
abbrev sByLevels : Stmt := topS 15
abbrev nByLevels : List Str := ["turning", "most", "tables", "further"]
theorem scByLevels : FnScope nByLevels ["turning", "most"] (defScope sByLevels) := ⟨rfl, rfl, rfl, by decide +kernel, rfl, by decide +kernel, by decide +kernel⟩
theorem atI_last {α : Type} {ds : List α} {d : α} : L2.atI (ds ++ [d]) (-1) = some d := by
  unfold L2.atI ixN
  rw [if_neg (by omega), if_pos (by rw [List.length_append]; simp; omega)]
  have e : ((-1 : Int) + ((ds ++ [d]).length : Int)).toNat = ds.length := by rw [List.length_append, List.length_singleton]; omega
  show (ds ++ [d])[((-1 : Int) + ((ds ++ [d]).length : Int)).toNat]? = some d
  rw [e]
  simp
theorem has_byLevels (T : Tx K mg) : Has P w K mg base "by_levels" 12 ["turning", "most"] (spP F_byLevels) := hasOf T.d_by_levels fun f fd Fn => by
  refine okP Fn scByLevels (fun ds Ψ h => by obtain ⟨s, _, rfl, _⟩ := h; rfl) fun cdv A outer s H E hr ds Ψ h => ?_
  obtain ⟨t, W, rfl, q⟩ := h
  refine dss_cons (ds_own 2 (dl_lst (da_cons (de_call (has_first T) hr (Nat.le_refl _) (da_cons (de_var 0 rfl (da_nil ⟨t, W, rfl, da_nil ⟨le1 rfl, ?_⟩⟩)))))) scByLevels.nd)
  refine dss_cons (ds_while (fun m δ' => ∃ i z, i + m = 37 ∧ (∀ j, j < i → lev t (j + 1) ≠ lev t j) ∧ δ' = [.dt (encTurning t), .dt (.int 40), .ow (tabs t (i + 1)), z]) 37 ⟨0, _, rfl, fun j h => by omega, rfl⟩ (fun m δ' hP => ?_) PassesOwn.never)
  obtain ⟨i, z, hi, hne, rfl⟩ := hP
  have hst := tp_steps W i hne
  refine dt_cmp op_lt (de_lenO 2 T.z_len rfl (de_var 1 rfl (rd_lt ⟨_, rfl, ?_⟩)))
  rw [tabs_len]
  refine ite2 (fun c => ?_) (fun c => ?_)
  · have hlast : L2.atI (tabs t (i + 1)) (-1) = some (.list (encSs (lev t i))) := by rw [tabs_succ]; exact atI_last
    refine dss_cons (ds_set 3 (de_call (has_next T) hr (Nat.le_refl _) (da_cons (de_var 0 rfl (da_cons (de_ixO 2 rfl (de_neg (de_int ⟨_, rfl, _, rfl, hlast, da_nil ⟨t, lev t i, W, lev_len W i, lev_ok W i, rfl, ?_⟩⟩))))))) scByLevels.nd)
    refine dss_cons (ds_if (dt_cmp (op_eqD hr.units) (de_var 3 rfl (de_ixO 2 rfl (de_neg (de_int ⟨_, rfl, _, rfl, hlast, rd_eqD (lev_shaped W (i + 1)) (lev_shaped W i) ⟨_, rfl, ?_⟩⟩))))))
    refine ite2 (fun c => ?_) (fun c => ?_)
    · have e : lev t (i + 1) = lev t i := (eqv_lists _ _).mp c
      exact dss_frz 2 rfl (dss_cons (ds_ret (de_var 2 rfl (q i (by omega) e hne))))
    · have e : lev t (i + 1) ≠ lev t i := fun z => c ((eqv_lists _ _).mpr z)
      refine dss_nil (dss_cons (ds_append 2 rfl (by rw [tabs_len]; omega) (de_var 3 rfl ?_)))
      refine dss_nil ⟨m - 1, by omega, i + 1, .dt (.list (encSs (lev t (i + 1)))), by omega, fun j hj => ?_, ?_⟩
      · rcases Nat.lt_succ_iff_lt_or_eq.mp hj with hj | rfl
        · exact hne j hj
        · exact e
      · rw [tabs_succ t (i + 1)]
        rfl
  · have : ¬ ((i + 1 : Nat) : Int) < 40 := fun z => c (decide_eq_true z)
    omega
/-! ### within -/
def F_within : List PyData → (PyData → Prop) → Prop := fun ds Ψ => ∃ (T : Turning) (n k : Nat), ds = [.list (tabs T n), .int ((k : Nat) : Int)] ∧ 1 ≤ k ∧ k ≤ n ∧ Ψ (.list (encSs (lev T (k - 1))))
abbrev sWithin : Stmt := topS 16
abbrev nWithin : List Str := ["tables", "many"]
theorem scWithin : FnScope nWithin ["tables", "many"] (defScope sWithin) := ⟨rfl, rfl, rfl, by decide +kernel, rfl, by decide +kernel, by decide +kernel⟩
theorem has_within (T : Tx K mg) {lv : Nat} : Has P w K mg base "within" (lv + 1) ["tables", "many"] (spP F_within) := hasOf T.d_within fun f fd Fn => by
  refine okP Fn scWithin (fun ds Ψ h => by obtain ⟨s, _, _, rfl, _⟩ := h; rfl) fun cdv A outer s H E hr ds Ψ h => ?_
  obtain ⟨t, n, k, rfl, h1, h2, q⟩ := h
  refine dss_cons (ds_ret (de_ix (de_var 0 rfl (de_op op_sub (de_min T.z_min (de_var 1 rfl (de_len T.z_len (de_var 0 rfl ⟨_, .inl rfl, _, _, rfl, rfl, ?_⟩))))))))
  rw [tabs_len, if_neg (by omega)]
  refine de_int (rd_sub ⟨tabs t n, ((k - 1 : Nat) : Int), .list (encSs (lev t (k - 1))), .inl rfl, ?_, atI_c (tabs_get t (by omega)), q⟩)
  have : (k : Int) - 1 = ((k - 1 : Nat) : Int) := by omega
  rw [this]
/-! ### row_number, rule_of -/
def F_rowNo : List PyData → (PyData → Prop) → Prop := fun ds Ψ => ∃ wd kd n i, ds = [encWood wd, .str kd, .str n] ∧ rowNo (rowsOf wd kd) n = some i ∧ Ψ (.int ((i : Nat) : Int))
abbrev sRowNo : Stmt := topS 19
abbrev nRowNo : List Str := ["wood", "kind", "name", "k", "row"]
theorem scRowNo : FnScope nRowNo ["wood", "kind", "name"] (defScope sRowNo) := ⟨rfl, rfl, rfl, by decide +kernel, rfl, by decide +kernel, by decide +kernel⟩
theorem has_rowNo (T : Tx K mg) {lv : Nat} : Has P w K mg base "row_number" (lv + 2) ["wood", "kind", "name"] (spP F_rowNo) := hasOf T.d_row_number fun f fd Fn => by
  refine okP Fn scRowNo (fun ds Ψ h => by obtain ⟨s, _, _, _, rfl, _⟩ := h; rfl) fun cdv A outer s H E hr ds Ψ h => ?_
  obtain ⟨wd, kd, n, i0, rfl, hi0, q⟩ := h
  refine dss_cons (ds_for2 3 4 (di_enumL T.z_enumerate (de_call (has_rowsOf T (lv := lv)) hr (Nat.le_refl _) (da_cons (de_var 0 rfl (da_cons (de_var 1 rfl (da_nil ⟨wd, kd, rfl, ?_⟩))))))) scRowNo.nd PassesOwn.never)
  rw [encRows]
  refine ⟨_, rfl, fun i δ' => ∃ y z, (rowNo ((rowsOf wd kd).drop i) n).map (· + i) = some i0 ∧ δ' = [.dt (encWood wd), .dt (.str kd), .dt (.str n), y, z], ⟨_, _, by simpa using hi0, rfl⟩, fun i d δ' e hP => ?_, fun δ' hP => ?_⟩
  · obtain ⟨y, z, hy, rfl⟩ := hP
    obtain ⟨d1, e1, rfl⟩ := enumD_get e
    rw [List.getElem?_map] at e1
    obtain ⟨r, hr1, rfl⟩ := Option.map_eq_some_iff.mp e1
    obtain ⟨hi, hk'⟩ := List.getElem?_eq_some_iff.mp hr1
    rw [List.drop_eq_getElem_cons hi, hk', rowNo] at hy
    refine ⟨_, _, rfl, dss_cons (ds_if (dt_cmp op_eq (de_ixc (de_var 4 rfl ⟨_, _, .inl rfl, rfl, de_var 2 rfl (rd_eqS ⟨_, rfl, ?_⟩)⟩))))⟩
    refine ite2 (fun c => ?_) (fun c => ?_)
    · rw [if_pos (of_decide_eq_true c)] at hy
      have e : i = i0 := by simpa using hy
      subst e
      exact dss_cons (ds_ret (de_var 3 rfl q))
    · rw [if_neg (fun z => c (decide_eq_true z))] at hy
      refine dss_nil (dss_nil ⟨_, _, ?_, rfl⟩)
      rw [Option.map_map] at hy
      rw [← hy]
      congr 1
      funext j
      show j + (i + 1) = j + 1 + i
      omega
  · obtain ⟨y, z, hy, rfl⟩ := hP
    rw [enumD_len, List.length_map, List.drop_length] at hy
    cases hy
def F_ruleOf : List PyData → (PyData → Prop) → Prop := fun ds Ψ => ∃ (T : Turning) (m : Nat) (n : Str) (t : Term), ds = [encTurning T, .int ((m : Nat) : Int), .str n] ∧ ruleOf T m n = some t ∧ Ψ (encT t)
abbrev sRuleOf : Stmt := topS 20
abbrev nRuleOf : List Str := ["turning", "mode", "name", "kind", "rules", "k"]
theorem scRuleOf : FnScope nRuleOf ["turning", "mode", "name"] (defScope sRuleOf) := ⟨rfl, rfl, rfl, by decide +kernel, rfl, by decide +kernel, by decide +kernel⟩
theorem ruleOf_some {T : Turning} {m : Nat} {n : Str} {t : Term} (h : ruleOf T m n = some t) : ∃ md i, T.modes[m]? = some md ∧ rowNo (rowsOf T.wood md.1) n = some i ∧ md.2[i]? = some t := by
  unfold ruleOf at h
  cases e : T.modes[m]? with
  | none => rw [e] at h; cases h
  | some md =>
    rw [e] at h
    cases e2 : rowNo (rowsOf T.wood md.1) n with
    | none => simp only [e2] at h; cases h
    | some i => simp only [e2] at h; exact ⟨md, i, rfl, e2, h⟩
theorem has_ruleOf (T : Tx K mg) {lv : Nat} : Has P w K mg base "rule_of" (lv + 3) ["turning", "mode", "name"] (spP F_ruleOf) := hasOf T.d_rule_of fun f fd Fn => by
  refine okP Fn scRuleOf (fun ds Ψ h => by obtain ⟨s, _, _, _, rfl, _⟩ := h; rfl) fun cdv A outer s H E hr ds Ψ h => ?_
  obtain ⟨t, m, n, tm, rfl, hm, q⟩ := h
  obtain ⟨md, i, h1, h2, h3⟩ := ruleOf_some hm
  refine dss_cons (ds_unpack 3 4 (de_ix (de_ixc (de_var 0 rfl ⟨_, _, .inl rfl, rfl, de_var 1 rfl ⟨_, _, encMode md, .inl rfl, rfl, atI_c (by rw [List.getElem?_map, h1]; rfl), _, _, rfl, ?_⟩⟩))) scRuleOf.nd)
  refine dss_cons (ds_set 5 (de_call (has_rowNo T (lv := lv)) hr (Nat.le_refl _) (da_cons (de_ixc (de_var 0 rfl ⟨_, _, .inl rfl, rfl, da_cons (de_var 3 rfl (da_cons (de_var 2 rfl (da_nil ⟨_, _, _, i, rfl, h2, ?_⟩))))⟩)))) scRuleOf.nd)
  refine dss_cons (ds_if (dt_cmp op_isN (de_var 5 rfl (de_non (rd_isN ⟨_, rfl, iteF (dss_nil ?_)⟩)))))
  refine dss_cons (ds_ret (de_ix (de_var 4 rfl (de_var 5 rfl ⟨_, _, encT tm, .inl rfl, rfl, atI_c ?_, q⟩))))
  rw [encTs_get, h3]
  rfl
end
end WK

set_option Elab.async false
set_option linter.all false
set_option maxRecDepth 100000
set_option maxHeartbeats 4000000
namespace WK
open PySem PySem.Spec PyProof.Rows L2 DL TM
theorem rowsOk_of {w : Wood} (W : GoodWood w) {k : Str} (hk : k ∈ kinds w) : RowsOk (rowsOf w k) :=
  ⟨Nat.le_trans (W.len k hk) (by decide), fun r hr => ⟨(W.row k hk r hr).1, Nat.le_trans (W.row k hk r hr).2.1 (by decide), fun b hb => W.nm b ((W.row k hk r hr).2.2 b hb)⟩, W.bare k hk⟩
theorem isNone_encR (t : TM.Tree) : isNone (encR t) = false := by cases t; rfl
section
variable {P : Program} {w : World} {K : PySem.W.Frag} {mg : Str → Option Value} {base : Heap}
/-! ### grown -/
def encO : Option TM.Tree → PyData
  | none => .none
  | some t => encR t
def F_grown : List PyData → (PyData → Prop) → Prop := fun ds Ψ => ∃ (T : Turning) (r : TM.Row) (mark : Int) (b : Nat) (o : Option TM.Tree), GoodWood T.wood ∧ (∀ k ∈ r.2, k ∈ kinds T.wood) ∧ r.2.length ≤ 4 ∧ (o ≠ none → b < r.2.length) ∧ ds = [encTurning T, encRow r, .int mark, .int ((b : Nat) : Int), encO o] ∧ Ψ (encR (grownT T.wood r mark b o))
abbrev sGrown : Stmt := topS 22
abbrev nGrown : List Str := ["turning", "row", "mark", "branch", "inner", "branches", "kind"]
theorem scGrown : FnScope nGrown ["turning", "row", "mark", "branch", "inner"] (defScope sGrown) := ⟨rfl, rfl, rfl, by decide +kernel, rfl, by decide +kernel, by decide +kernel⟩
theorem has_grown (T : Tx K mg) {lv : Nat} : Has P w K mg base "grown" (lv + 3) ["turning", "row", "mark", "branch", "inner"] (spP F_grown) := hasOf T.d_grown fun f fd Fn => by
  refine okP Fn scGrown (fun ds Ψ h => by obtain ⟨_, _, _, _, _, _, _, _, _, rfl, _⟩ := h; rfl) fun cdv A outer s H E hr ds Ψ h => ?_
  obtain ⟨t, r, mark, b, o, W, hk, hl, hb, rfl, q⟩ := h
  refine dss_cons (ds_lc 5 6 (blkOk_by (N := nGrown) (sc := defScope sGrown) (by decide +kernel)) scGrown.nd (di_tup (de_ixc (de_var 1 rfl ⟨_, _, .inl rfl, rfl, _, rfl, ?_⟩))) (sw_true rfl rfl rfl (by decide +kernel)))
  refine LcAsk.res (encRs (r.2.map (leafOf t.wood))) (by rw [List.length_map]; omega) (by rw [encRs_len, List.length_map, List.length_map]) (fun i d g s H0 Cl cl fp => ?_) ?_
  · rw [List.getElem?_map] at g
    obtain ⟨k, hk1, rfl⟩ := Option.map_eq_some_iff.mp g
    refine de_call (has_leafOf T (lv := lv)) hr (Nat.le_refl _) (da_cons (de_ixc (de_var 0 rfl ⟨_, _, .inl rfl, rfl, da_cons (de_var 6 rfl (da_nil ⟨t.wood, k, rfl, rowsOk_of W (hk k (List.mem_of_getElem? hk1)), ?_⟩))⟩)))
    rw [encRs_get, List.getElem?_map, hk1]
    rfl
  refine dss_cons (ds_if (dt_cmp op_notN (de_var 4 rfl (de_non (rd_notN ⟨_, rfl, ?_⟩)))))
  cases o with
  | none =>
    refine iteF (dss_nil (dss_frz 5 rfl (dss_cons (ds_ret (de_tup (da_cons (de_ixc (de_var 1 rfl ⟨_, _, .inl rfl, rfl, ?_⟩))))))))
    exact da_cons (de_var 2 rfl (da_cons (de_tupleOf T.z_tuple (de_var 5 rfl ⟨_, .inl rfl, da_nil ⟨le1 rfl, q⟩⟩))))
  | some c =>
    have e : (!isNone (encO (some c))) = true := by show (!isNone (encR c)) = true; rw [isNone_encR]; rfl
    rw [e]
    have hb' := hb (by simp)
    refine iteT (dss_cons (ds_setitem 5 rfl (de_var 4 rfl (de_var 3 rfl ⟨b, rfl, ?_, ?_⟩)) (hg := fun _ _ _ h1 h2 h3 => pg_sub h1 h2 h3)))
    · rw [encRs_len, List.length_map]; exact hb'
    refine dss_nil (dss_frz 5 rfl (dss_cons (ds_ret (de_tup (da_cons (de_ixc (de_var 1 rfl ⟨_, _, .inl rfl, rfl, ?_⟩)))))))
    refine da_cons (de_var 2 rfl (da_cons (de_tupleOf T.z_tuple (de_var 5 rfl ⟨_, .inl rfl, da_nil ⟨le1 rfl, ?_⟩⟩))))
    have e2 : (encRs (r.2.map (leafOf t.wood))).set b (encO (some c)) = encRs ((r.2.map (leafOf t.wood)).set b c) := by
      rw [encRs_map, encRs_map, List.map_set]
      rfl
    rw [e2]
    exact q
/-! ### leaf_label -/
def F_leafLabel : List PyData → (PyData → Prop) → Prop := fun ds Ψ => ∃ (T : Turning) (m : Nat) (md : Mode) (p : List Nat) (nm : Str) (t : Term) (n : Str) (k : Bool) (a : Int) (ps : List Term), WF T ∧ T.modes[m]? = some md ∧ ds = [encTurning T, .int ((m : Nat) : Int), encP p] ∧
  leafOf T.wood md.1 = .node nm 0 [] ∧ ruleOf T m nm = some t ∧ standsAt t p = some (.put n k a ps, []) ∧ Ψ (encL (n, a, ps.length))
abbrev sLeafLabel : Stmt := topS 23
abbrev nLeafLabel : List Str := ["turning", "mode", "place", "here", "k"]
theorem scLeafLabel : FnScope nLeafLabel ["turning", "mode", "place"] (defScope sLeafLabel) := ⟨rfl, rfl, rfl, by decide +kernel, rfl, by decide +kernel, by decide +kernel⟩
theorem has_leafLabel (T : Tx K mg) {lv : Nat} : Has P w K mg base "leaf_label" (lv + 4) ["turning", "mode", "place"] (spP F_leafLabel) := hasOf T.d_leaf_label fun f fd Fn => by
  refine okP Fn scLeafLabel (fun ds Ψ h => by obtain ⟨_, _, _, _, _, _, _, _, _, _, _, _, rfl, _⟩ := h; rfl) fun cdv A outer s H E hr ds Ψ h => ?_
  obtain ⟨t, m, md, p, nm, tm, n, kk, a, ps, W, hm, rfl, hlf, hrl, hst, q⟩ := h
  have mm := List.mem_of_getElem? hm
  refine dss_cons (ds_set 3 (de_call (has_ruleOf T (lv := lv)) hr (Nat.le_refl _) (da_cons (de_var 0 rfl (da_cons (de_var 1 rfl (da_cons (de_ixc (de_call (has_leafOf T (lv := lv)) hr (Nat.le_succ _) ?_)))))))) scLeafLabel.nd)
  refine da_cons (de_ixc (de_var 0 rfl ⟨_, _, .inl rfl, rfl, da_cons (de_ixc (de_ix (de_ixc (de_var 0 rfl ⟨_, _, .inl rfl, rfl, de_var 1 rfl ⟨_, _, encMode md, .inl rfl, rfl, atI_c (by rw [List.getElem?_map, hm]; rfl), ?_⟩⟩))))⟩))
  refine ⟨_, _, .inl rfl, rfl, da_nil ⟨t.wood, md.1, rfl, rowsOk_of W.wood (W.kind md mm), ?_⟩⟩
  rw [hlf]
  refine ⟨_, _, .inl rfl, rfl, da_nil ⟨t, m, nm, tm, rfl, hrl, ?_⟩⟩
  refine dss_cons (ds_for 4 (di_tup (de_var 2 rfl ⟨_, rfl, ?_⟩)) scLeafLabel.nd PassesOwn.never)
  refine ⟨fun i δ' => ∃ y z, standsAt y (p.drop i) = some (.put n kk a ps, []) ∧ δ' = [.dt (encTurning t), .dt (.int ((m : Nat) : Int)), .dt (encP p), .dt (encT y), z], ⟨tm, .no, by simpa using hst, rfl⟩, fun i d δ' e hP => ?_, fun δ' hP => ?_⟩
  · obtain ⟨y, z, hy, rfl⟩ := hP
    rw [List.getElem?_map] at e
    obtain ⟨k, hk, rfl⟩ := Option.map_eq_some_iff.mp e
    obtain ⟨hi, hk'⟩ := List.getElem?_eq_some_iff.mp hk
    rw [List.drop_eq_getElem_cons hi, hk'] at hy
    cases y with
    | call m' b => simp [standsAt] at hy
    | put n1 k1 a1 ps1 =>
      obtain ⟨p', hp, hx⟩ := standsAt_put.mp hy
      refine dss_cons (ds_set 3 (de_ix (de_ixc (de_var 3 rfl ⟨_, _, .inl rfl, rfl, de_var 4 rfl ⟨_, _, encT p', .inr rfl, rfl, atI_c ?_, ?_⟩⟩))) scLeafLabel.nd)
      · rw [encTs_get, hp]; rfl
      · exact dss_nil ⟨p', .dt (encNat k), hx, rfl⟩
  · obtain ⟨y, z, hy, rfl⟩ := hP
    rw [List.length_map, List.drop_length] at hy
    have e : y = .put n kk a ps := by simp [standsAt] at hy; exact hy
    subst e
    refine dss_cons (ds_ret (de_tup (da_cons (de_ixc (de_var 3 rfl ⟨_, _, .inl rfl, rfl, da_cons (de_ixc (de_var 3 rfl ⟨_, _, .inl rfl, rfl, da_cons (de_len T.z_len (de_ixc (de_var 3 rfl ⟨_, _, .inl rfl, rfl, _, .inr rfl, da_nil ⟨le1 rfl, ?_⟩⟩)))⟩))⟩)))))
    rw [encTs_len]
    exact q
/-! ### stands_at -/
def F_standsAt : List PyData → (PyData → Prop) → Prop := fun ds Ψ => ∃ (t : Term) (p : List Nat) (here : Term) (rest : List Nat), ds = [encT t, encP p] ∧ standsAt t p = some (here, rest) ∧ Ψ (.tuple [encT here, encP rest])
abbrev sStandsAt : Stmt := topS 24
abbrev nStandsAt : List Str := ["rule", "place", "here", "k", "step"]
theorem scStandsAt : FnScope nStandsAt ["rule", "place"] (defScope sStandsAt) := ⟨rfl, rfl, rfl, by decide +kernel, rfl, by decide +kernel, by decide +kernel⟩
theorem has_standsAt (T : Tx K mg) {lv : Nat} : Has P w K mg base "stands_at" (lv + 1) ["rule", "place"] (spP F_standsAt) := hasOf T.d_stands_at fun f fd Fn => by
  refine okP Fn scStandsAt (fun ds Ψ h => by obtain ⟨_, _, _, _, rfl, _⟩ := h; rfl) fun cdv A outer s H E hr ds Ψ h => ?_
  obtain ⟨t, p, here, rest, rfl, hst, q⟩ := h
  refine dss_cons (ds_set 2 (de_var 0 rfl ?_) scStandsAt.nd)
  refine dss_cons (ds_for2 3 4 (di_enumT T.z_enumerate (de_var 1 rfl ⟨_, rfl, ?_⟩)) scStandsAt.nd PassesOwn.never)
  refine ⟨fun i δ' => ∃ y u v, standsAt y (p.drop i) = some (here, rest) ∧ δ' = [.dt (encT t), .dt (encP p), .dt (encT y), u, v], ⟨t, _, _, by simpa using hst, rfl⟩, fun i d δ' e hP => ?_, fun δ' hP => ?_⟩
  · obtain ⟨y, u, v, hy, rfl⟩ := hP
    obtain ⟨d1, e1, rfl⟩ := enumD_get e
    rw [List.getElem?_map] at e1
    obtain ⟨k, hk, rfl⟩ := Option.map_eq_some_iff.mp e1
    obtain ⟨hi, hk'⟩ := List.getElem?_eq_some_iff.mp hk
    rw [List.drop_eq_getElem_cons hi, hk'] at hy
    refine ⟨_, _, rfl, dss_cons (ds_if (dt_cmp op_eq (de_ixc (de_var 2 rfl ⟨_, _, .inl (encT_eq _), rfl, de_str (rd_eqS ⟨_, rfl, ?_⟩)⟩))))⟩
    refine ite2 (fun c => ?_) (fun c => ?_)
    · obtain ⟨m, b, rfl⟩ := tagT_call c
      have hy' : (Term.call m b, k :: p.drop (i + 1)) = (here, rest) := by simpa [standsAt] using hy
      cases hy'
      refine dss_cons (ds_ret (de_tup (da_cons (de_var 2 rfl (da_cons (de_sliceT (de_var 1 rfl (de_var 3 rfl ⟨_, i, rfl, rfl, ?_, da_nil ⟨le1 rfl, ?_⟩⟩))))))))
      · rw [List.length_map]; omega
      · rw [← List.map_drop, List.drop_eq_getElem_cons hi, hk']
        exact q
    · obtain ⟨n1, k1, a1, ps1, rfl⟩ := tagT_put c
      obtain ⟨p', hp, hx⟩ := standsAt_put.mp hy
      refine dss_nil (dss_cons (ds_set 2 (de_ix (de_ixc (de_var 2 rfl ⟨_, _, .inl rfl, rfl, de_var 4 rfl ⟨_, _, encT p', .inr rfl, rfl, atI_c ?_, ?_⟩⟩))) scStandsAt.nd))
      · rw [encTs_get, hp]; rfl
      · exact dss_nil ⟨p', _, _, hx, rfl⟩
  · obtain ⟨y, u, v, hy, rfl⟩ := hP
    rw [enumD_len, List.length_map, List.drop_length] at hy
    have e : (y, ([] : List Nat)) = (here, rest) := by simpa [standsAt] using hy
    cases e
    exact dss_cons (ds_ret (de_tup (da_cons (de_var 2 rfl (da_cons (de_tup (da_nil ⟨le1 rfl, da_nil ⟨le1 rfl, q⟩⟩)))))))
/-! ### unlike_put -/
def F_unlikePut : List PyData → (PyData → Prop) → Prop := fun ds Ψ => ∃ (T : Turning) (r : TM.Row) (n : Str) (k : Bool) (a : Int) (ps : List Term) (L : Label), GoodWood T.wood ∧ (∀ k ∈ r.2, k ∈ kinds T.wood) ∧ r.2.length ≤ 4 ∧ PyData.strOk n = true ∧ PyData.strOk L.1 = true ∧
  ds = [encTurning T, encRow r, encT (.put n k a ps), encL L] ∧ (∀ mark : Int, (n, a + mark * (if k then 1 else 0), ps.length) ≠ L → Ψ (encR (grownT T.wood r mark 0 none))) ∧ (k = false → (n, a, ps.length) = L → Ψ .none)
abbrev sUnlikePut : Stmt := topS 25
abbrev nUnlikePut : List Str := ["turning", "row", "put", "label", "mark", "shown"]
theorem scUnlikePut : FnScope nUnlikePut ["turning", "row", "put", "label"] (defScope sUnlikePut) := ⟨rfl, rfl, rfl, by decide +kernel, rfl, by decide +kernel, by decide +kernel⟩
theorem has_unlikePut (T : Tx K mg) {lv : Nat} : Has P w K mg base "unlike_put" (lv + 4) ["turning", "row", "put", "label"] (spP F_unlikePut) := hasOf T.d_unlike_put fun f fd Fn => by
  refine okP Fn scUnlikePut (fun ds Ψ h => by obtain ⟨_, _, _, _, _, _, _, _, _, _, _, _, rfl, _⟩ := h; rfl) fun cdv A outer s H E hr ds Ψ h => ?_
  obtain ⟨t, r, n, k, a, ps, L, W, hk, hl, okn, okL, rfl, q1, q2⟩ := h
  refine dss_cons (ds_for 4 (di_tup (de_tup (da_cons (de_int (da_cons (de_int (da_nil ⟨le1 rfl, _, rfl, ?_⟩))))))) scUnlikePut.nd PassesOwn.never)
  refine ⟨fun i δ' => ∃ u v, (0 < i → (n, a, ps.length) = L) ∧ (1 < i → k = false) ∧ δ' = [.dt (encTurning t), .dt (encRow r), .dt (encT (.put n k a ps)), .dt (encL L), u, v], ⟨_, _, fun h => by omega, fun h => by omega, rfl⟩, fun i d δ' e hP => ?_, fun δ' hP => ?_⟩
  · obtain ⟨u, v, h1, h2, rfl⟩ := hP
    have hd : d = .int ((i : Nat) : Int) ∧ i < 2 := by
      rcases i with _ | _ | i
      · simp at e; exact ⟨e.symm, by omega⟩
      · simp at e; exact ⟨e.symm, by omega⟩
      · simp at e
    obtain ⟨rfl, hi⟩ := hd
    refine dss_cons (ds_set 5 (de_imp (Ψ' := fun d => d = .int (a + (i : Int) * (if k then 1 else 0))) (de_if (dt_val (de_ixc (de_var 2 rfl ⟨_, _, .inl rfl, rfl, k, rfl, ?_⟩)))) fun d hd => ?_) scUnlikePut.nd)
    · refine ite2 (fun c => ?_) (fun c => ?_)
      · refine de_op op_add (de_ixc (de_var 2 rfl ⟨_, _, .inl rfl, rfl, de_var 4 rfl (rd_add ?_)⟩))
        rw [if_pos c, Int.mul_one]
      · refine de_ixc (de_var 2 rfl ⟨_, _, .inl rfl, rfl, ?_⟩)
        rw [if_neg c, Int.mul_zero, Int.add_zero]
    subst hd
    refine dss_cons (ds_if (dt_cmp (op_neD hr.units) (de_tup (da_cons (de_ixc (de_var 2 rfl ⟨_, _, .inl rfl, rfl, da_cons (de_var 5 rfl (da_cons (de_len T.z_len (de_ixc (de_var 2 rfl ⟨_, _, .inl rfl, rfl, _, .inr rfl, da_nil ⟨le1 rfl, de_var 3 rfl ?_⟩⟩)))))⟩))))))
    rw [encTs_len]
    refine rd_neD (d1 := encL (n, a + (i : Int) * (if k then 1 else 0), ps.length)) (shaped_L okn) (shaped_L okL) ⟨_, rfl, ?_⟩
    refine ite2 (fun c => ?_) (fun c => ?_)
    · have hne : (n, a + (i : Int) * (if k then 1 else 0), ps.length) ≠ L := fun z => by
        rw [(eqv_encL _ _).mpr z] at c; cases c
      exact dss_cons (ds_ret (de_call (has_grown T (lv := lv)) hr (Nat.le_refl _) (da_cons (de_var 0 rfl (da_cons (de_var 1 rfl (da_cons (de_var 4 rfl (da_cons (de_int (da_cons (de_non (da_nil ⟨t, r, i, 0, none, W, hk, hl, fun z => absurd rfl z, rfl, q1 i hne⟩)))))))))))) )
    · have he : (n, a + (i : Int) * (if k then 1 else 0), ps.length) = L := (eqv_encL _ _).mp (by simpa using c)
      refine dss_nil (dss_nil ⟨_, _, fun _ => ?_, fun h => ?_, rfl⟩)
      · rcases Nat.eq_zero_or_pos i with h0 | h0
        · subst h0
          have : a + ((0 : Nat) : Int) * (if k then 1 else 0) = a := by simp
          rw [this] at he
          exact he
        · exact h1 h0
      · have i1 : i = 1 := by omega
        subst i1
        have e0 := h1 (by decide)
        rw [← e0] at he
        have e2 : a + ((1 : Nat) : Int) * (if k then 1 else 0) = a := (Prod.mk.inj (Prod.mk.inj he).2).1
        cases k with
        | false => rfl
        | true => simp at e2; omega
  · obtain ⟨u, v, h1, h2, rfl⟩ := hP
    exact dss_cons (ds_ret (de_non (q2 (h2 (by decide)) (h1 (by decide)))))
end
end WK

set_option Elab.async false
set_option linter.all false
set_option maxRecDepth 100000
set_option maxHeartbeats 4000000
namespace DL
open PySem PySem.Spec PyProof.Rows L2
theorem ds_mono {X : Cx} {δ : List Sl} {st : Stmt} {Φ : EndsD} (N : List Sl → Prop) (h : DS X δ st { Φ with nx := N }) (f : ∀ δ', N δ' → Φ.nx δ') : DS X δ st Φ := by
  intro C S σ H D I k
  exact h C S σ H D I ⟨fun S' σ' H' δ' q I' s => k.nx S' σ' H' δ' (f δ' q) I' s, k.rt, k.bk, k.ct⟩
end DL
namespace WK
open PySem PySem.Spec PyProof.Rows L2 DL TM
theorem stumpAt_ok : ∀ {P : List Nat} {s x : Stump}, s.ok → stumpAt s P = some x → x.ok
  | [], s, x, h, e => by
    have e' : s = x := by simpa [stumpAt] using e
    subst e'; exact h
  | k :: r, .opn, x, h, e => by simp [stumpAt] at e
  | k :: r, .put n m ps, x, h, e => by
    obtain ⟨p, hp, hx⟩ := stumpAt_put.mp e
    exact stumpAt_ok (Stump.oks_mem h.2.2 p (List.mem_of_getElem? hp)) hx
section
variable {P : Program} {w : World} {K : PySem.W.Frag} {mg : Str → Option Value} {base : Heap}
/-! ### unlike, unlike_call -/
def F_unlike (k : Nat) : List PyData → (PyData → Prop) → Prop := fun ds Ψ => ∃ (T : Turning) (n m : Nat) (p : List Nat) (L : Label) (md : Mode) (s : Stump), WF T ∧ k + 1 ≤ n ∧ T.modes[m]? = some md ∧ (lev T k)[m]? = some s ∧ stumpAt s p = some .opn ∧ PyData.strOk L.1 = true ∧
  ds = [encTurning T, .list (tabs T n), .int ((m : Nat) : Int), encP p, .int ((k + 1 : Nat) : Int), encL L] ∧ ∀ tree, Unl T m p L (k + 2) tree → Ψ (encR tree)
def F_unlikeCall (k : Nat) : List PyData → (PyData → Prop) → Prop := fun ds Ψ => ∃ (T : Turning) (n m b : Nat) (r : TM.Row) (p : List Nat) (L : Label) (md : Mode) (s x : Stump), WF T ∧ k + 2 ≤ n ∧ T.modes[m]? = some md ∧ (lev T k)[m]? = some s ∧ stumpAt s p = some x ∧ PyData.strOk L.1 = true ∧
  (∀ k ∈ r.2, k ∈ kinds T.wood) ∧ r.2.length ≤ 4 ∧ b < r.2.length ∧
  ds = [encTurning T, .list (tabs T n), encRow r, encT (.call m b), encP p, .int ((k + 2 : Nat) : Int), encL L] ∧
  (x = .opn → ∀ tree, Unl T m p L (k + 2) tree → Ψ (encR (grownT T.wood r 0 b (some tree)))) ∧
  (∀ n a ps, x = .put n a ps → (n, a, ps.length) ≠ L → Ψ (encR (grownT T.wood r 0 0 none))) ∧ (HasLab L x → Ψ .none)
abbrev sUnlikeCall : Stmt := topS 26
abbrev nUnlikeCall : List Str := ["turning", "tables", "row", "call", "rest", "many", "label", "there", "inner"]
theorem scUnlikeCall : FnScope nUnlikeCall ["turning", "tables", "row", "call", "rest", "many", "label"] (defScope sUnlikeCall) := ⟨rfl, rfl, rfl, by decide +kernel, rfl, by decide +kernel, by decide +kernel⟩
abbrev sUnlike : Stmt := topS 27
abbrev nUnlike : List Str := ["turning", "tables", "mode", "place", "many", "label", "kind", "rules", "row", "rule", "here", "rest", "found"]
theorem scUnlike : FnScope nUnlike ["turning", "tables", "mode", "place", "many", "label"] (defScope sUnlike) := ⟨rfl, rfl, rfl, by decide +kernel, rfl, by decide +kernel, by decide +kernel⟩
theorem has_unlikeCall (T : Tx K mg) {k : Nat} (ih : Has P w K mg base "unlike" (10 + 2 * k) ["turning", "tables", "mode", "place", "many", "label"] (spP (F_unlike k))) :
    Has P w K mg base "unlike_call" (11 + 2 * k) ["turning", "tables", "row", "call", "rest", "many", "label"] (spP (F_unlikeCall k)) := hasOf T.d_unlike_call fun f fd Fn => by
  rw [show 11 + 2 * k = (10 + 2 * k) + 1 by omega]
  refine okP Fn scUnlikeCall (fun ds Ψ h => by obtain ⟨_, _, _, _, _, _, _, _, _, _, _, _, _, _, _, _, _, _, _, rfl, _⟩ := h; rfl) fun cdv A outer s H E hr ds Ψ h => ?_
  obtain ⟨t, n, m, b, r, p, L, md, sm, x, W, hn, hm, hs, hx, okL, hk, hl, hb, rfl, q1, q2, q3⟩ := h
  have okx : x.ok := stumpAt_ok (lev_ok W k sm (List.mem_of_getElem? hs)).1 hx
  refine dss_cons (ds_set 7 (de_call (has_stumpAt T (lv := 8)) hr (by omega) (da_cons (de_ix (de_call (has_within T (lv := 8)) hr (by omega) (da_cons (de_var 1 rfl (da_cons (de_op op_sub (de_var 5 rfl (de_int (rd_sub (da_nil ⟨t, n, k + 1, ?_, by omega, by omega, ?_⟩)))))))))))) scUnlikeCall.nd)
  · have : ((k + 2 : Nat) : Int) - 1 = ((k + 1 : Nat) : Int) := by omega
    rw [this]
  refine de_ixc (de_var 3 rfl ⟨_, _, .inl rfl, rfl, _, _, encS sm, .inl rfl, rfl, atI_c ?_, ?_⟩)
  · show (encSs (lev t k))[m]? = _
    rw [encSs_get, hs]; rfl
  refine da_cons (de_var 4 rfl (da_nil ⟨sm, p, x, rfl, hx, ?_⟩))
  refine dss_cons (ds_if (dt_cmp op_eq (de_ixc (de_var 7 rfl ⟨_, _, .inl (encS_eq _), rfl, de_str (rd_eqS ⟨_, rfl, ?_⟩)⟩))))
  have gr : ∀ (bb : Nat) (o : Option TM.Tree) (Ψ : PyData → Prop), (o ≠ none → bb < r.2.length) → Ψ (encR (grownT t.wood r 0 bb o)) → F_grown [encTurning t, encRow r, .int 0, .int ((bb : Nat) : Int), encO o] Ψ := fun bb o Ψ h1 h2 => ⟨t, r, 0, bb, o, W.wood, hk, hl, h1, rfl, h2⟩
  refine ite2 (fun c => ?_) (fun c => ?_)
  · have e := tagS_open c
    subst e
    refine dss_cons (ds_set 8 (de_call ih hr (by omega) (da_cons (de_var 0 rfl (da_cons (de_var 1 rfl (da_cons (de_ixc (de_var 3 rfl ⟨_, _, .inl rfl, rfl, ?_⟩)))))))) scUnlikeCall.nd)
    refine da_cons (de_var 4 rfl (da_cons (de_op op_sub (de_var 5 rfl (de_int (rd_sub (da_cons (de_var 6 rfl (da_nil ⟨t, n, m, p, L, md, sm, W, by omega, hm, hs, hx, okL, ?_, fun tree htree => ?_⟩)))))))))
    · have : ((k + 2 : Nat) : Int) - 1 = ((k + 1 : Nat) : Int) := by omega
      rw [this]
    · refine dss_cons (ds_ret (de_call (has_grown T (lv := 7)) hr (by omega) (da_cons (de_var 0 rfl (da_cons (de_var 2 rfl (da_cons (de_int ?_))))))))
      exact da_cons (de_ixc (de_var 3 rfl ⟨_, _, .inl rfl, rfl, da_cons (de_var 8 rfl (da_nil (gr b (some tree) _ (fun _ => hb) (q1 rfl tree htree))))⟩))
  · obtain ⟨n1, a1, ps1, rfl⟩ := tagS_put c
    refine dss_nil (dss_cons (ds_if (dt_cmp (op_neD hr.units) (de_tup (da_cons (de_ixc (de_var 7 rfl ⟨_, _, .inl rfl, rfl, da_cons (de_ixc (de_var 7 rfl ⟨_, _, .inl rfl, rfl, da_cons (de_len T.z_len (de_ixc (de_var 7 rfl ⟨_, _, .inl rfl, rfl, _, .inr rfl, da_nil ⟨le1 rfl, de_var 6 rfl ?_⟩⟩)))⟩))⟩)))))))
    rw [encSs_len]
    refine rd_neD (d1 := encL (n1, a1, ps1.length)) (shaped_L okx.1) (shaped_L okL) ⟨_, rfl, ?_⟩
    refine ite2 (fun c => ?_) (fun c => ?_)
    · have hne : (n1, a1, ps1.length) ≠ L := fun z => by rw [(eqv_encL _ _).mpr z] at c; cases c
      refine dss_cons (ds_ret (de_call (has_grown T (lv := 7)) hr (by omega) (da_cons (de_var 0 rfl (da_cons (de_var 2 rfl (da_cons (de_int ?_))))))))
      exact da_cons (de_int (da_cons (de_non (da_nil (gr 0 none _ (fun z => absurd rfl z) (q2 n1 a1 ps1 rfl hne))))))
    · have he : (n1, a1, ps1.length) = L := (eqv_encL _ _).mp (by simpa using c)
      subst he
      exact dss_nil (dss_cons (ds_ret (de_non (q3 ⟨ps1, rfl, rfl⟩))))
theorem ok_unlike (T : Tx K mg) {k : Nat} (ih : ∀ j, j + 1 = k → Has P w K mg base "unlike_call" (11 + 2 * j) ["turning", "tables", "row", "call", "rest", "many", "label"] (spP (F_unlikeCall j))) :
    Has P w K mg base "unlike" (10 + 2 * k) ["turning", "tables", "mode", "place", "many", "label"] (spP (F_unlike k)) := hasOf T.d_unlike fun f fd Fn => by
  rw [show 10 + 2 * k = (9 + 2 * k) + 1 by omega]
  refine okP Fn scUnlike (fun ds Ψ h => by obtain ⟨_, _, _, _, _, _, _, _, _, _, _, _, _, rfl, _⟩ := h; rfl) fun cdv A outer s H E hr ds Ψ h => ?_
  obtain ⟨t, n, m, p, L, md, sm, W, hn, hm, hs, hP, okL, rfl, q⟩ := h
  have mm := List.mem_of_getElem? hm
  refine dss_cons (ds_unpack 6 7 (de_ix (de_ixc (de_var 0 rfl ⟨_, _, .inl rfl, rfl, de_var 2 rfl ⟨_, _, encMode md, .inl rfl, rfl, atI_c (by rw [List.getElem?_map, hm]; rfl), _, _, rfl, ?_⟩⟩))) scUnlike.nd)
  refine dss_cons (ds_for2 8 9 (di_zip T.z_zip (de_call (has_rowsOf T (lv := 8)) hr (by omega) (da_cons (de_ixc (de_var 0 rfl ⟨_, _, .inl rfl, rfl, da_cons (de_var 6 rfl (da_nil ⟨t.wood, md.1, rfl, ?_⟩))⟩))))) scUnlike.nd PassesOwn.never)
  refine de_var 7 rfl ⟨_, _, .inl ⟨rfl, rfl⟩, ?_⟩
  refine ⟨fun i δ' => ∃ x1 x2 x3 x4 x5, (∀ (j : Nat) (r : TM.Row) (tm : Term), j < i → (rowsOf t.wood md.1)[j]? = some r → md.2[j]? = some tm → (0 < k ∨ r.2 = []) → ∃ x, stumpAt (stumpIn (lev t (k - 1)) tm) p = some x ∧ HasLab L x) ∧
    δ' = [.dt (encTurning t), .dt (.list (tabs t n)), .dt (.int ((m : Nat) : Int)), .dt (encP p), .dt (.int ((k + 1 : Nat) : Int)), .dt (encL L), .dt (.str md.1), .dt (.list (encTs md.2)), x1, x2, x3, x4, x5], ⟨_, _, _, _, _, fun j r tm h => by omega, rfl⟩, fun i d δ' e hPv => ?_, fun δ' hPv => ?_⟩
  · obtain ⟨x1, x2, x3, x4, x5, hdone, rfl⟩ := hPv
    obtain ⟨d1, d2, g1, g2, rfl⟩ := zipD_get e
    rw [List.getElem?_map] at g1
    obtain ⟨r, hr1, rfl⟩ := Option.map_eq_some_iff.mp g1
    rw [encTs_get] at g2
    obtain ⟨tm, htm, rfl⟩ := Option.map_eq_some_iff.mp g2
    obtain ⟨w1, w2, w3⟩ := W.wood.row md.1 (W.kind md mm) r (List.mem_of_getElem? hr1)
    have rk := W.rule md mm i r tm hr1 htm
    have step : ∀ (Z : Prop), ((0 < k ∨ r.2 = []) → ∃ x, stumpAt (stumpIn (lev t (k - 1)) tm) p = some x ∧ HasLab L x) → (∀ (j : Nat) (r : TM.Row) (tm : Term), j < i + 1 → (rowsOf t.wood md.1)[j]? = some r → md.2[j]? = some tm → (0 < k ∨ r.2 = []) → ∃ x, stumpAt (stumpIn (lev t (k - 1)) tm) p = some x ∧ HasLab L x) := by
      intro _ hz j r' tm' hj h1 h2 h3
      rcases Nat.lt_succ_iff_lt_or_eq.mp hj with hj | rfl
      · exact hdone j r' tm' hj h1 h2 h3
      · rw [hr1] at h1; cases h1
        rw [htm] at h2; cases h2
        exact hz h3
    refine ⟨_, _, rfl, dss_cons (ds_if (dt_imp (Ψ' := fun c => (c = true ↔ (0 < k ∨ r.2 = []))) (dt_of (dw_or (dt_cmp op_gt (de_var 4 rfl (de_int (rd_gt ⟨_, rfl, ?_⟩)))))) fun c hc => ?_))⟩
    · refine ite2 (fun c => ?_) (fun c => ?_)
      · have : (1 : Int) < ((k + 1 : Nat) : Int) := of_decide_eq_true c
        exact ⟨fun _ => .inl (by omega), fun _ => rfl⟩
      · have hk0 : ¬ (1 : Int) < ((k + 1 : Nat) : Int) := fun z => c (decide_eq_true z)
        refine dw_or1 (dt_cmp (op_eqD hr.units) (de_ixc (de_var 8 rfl ⟨_, _, .inl rfl, rfl, de_tup (da_nil ⟨le1 rfl, rd_eqD (shaped_strs fun b hb => W.wood.nm b (w3 b hb)) shaped_nil ⟨_, rfl, ?_⟩⟩)⟩)))
        rw [eqv_nil]
        constructor
        · intro z; exact .inr (List.isEmpty_iff.mp z)
        · rintro (z | z)
          · omega
          · rw [z]; rfl
    cases c with
    | false =>
      refine iteF (dss_nil (dss_nil ⟨_, _, _, _, _, step True fun z => ?_, rfl⟩))
      exact absurd (hc.mpr z) (by simp)
    | true =>
      have hcons : 0 < k ∨ r.2 = [] := hc.mp rfl
      obtain ⟨x, hx⟩ := row_at W k hm hs hP hr1 htm hcons
      obtain ⟨here, rest, hst, hcase⟩ := stumpIn_at hx
      obtain ⟨okh, callh⟩ := standsAt_mem hst rk.ok rk.calls
      refine iteT (dss_cons (ds_unpack 10 11 (de_call (has_standsAt T (lv := 8)) hr (by omega) (da_cons (de_var 9 rfl (da_cons (de_var 3 rfl (da_nil ⟨tm, p, here, rest, rfl, hst, _, _, rfl, ?_⟩)))))) scUnlike.nd))
      refine dss_cons (ds_mono (fun δ' => ∃ d, ((∃ tree, d = encR tree ∧ Unl t m p L (k + 2) tree) ∨ (d = .none ∧ ∃ x, stumpAt (stumpIn (lev t (k - 1)) tm) p = some x ∧ HasLab L x)) ∧
        δ' = [.dt (encTurning t), .dt (.list (tabs t n)), .dt (.int ((m : Nat) : Int)), .dt (encP p), .dt (.int ((k + 1 : Nat) : Int)), .dt (encL L), .dt (.str md.1), .dt (.list (encTs md.2)), .dt (encRow r), .dt (encT tm), .dt (encT here), .dt (encP rest), .dt d]) ?_ fun δ' hN => ?_)
      · refine ds_if (dt_cmp op_eq (de_ixc (de_var 10 rfl ⟨_, _, .inl (encT_eq _), rfl, de_str (rd_eqS ⟨_, rfl, ?_⟩)⟩)))
        rcases hcase with ⟨m', b, rfl, hxs⟩ | ⟨nn, kk, a, ps, rfl, rfl, rfl⟩
        · have et : decide (tagT (.call m' b) = "put") = false := show decide (("call" : Str) = "put") = false by decide +kernel
          rw [et]
          obtain ⟨md', f1, f2⟩ := callh
          have hb : b < r.2.length := (List.getElem?_eq_some_iff.mp f2).1
          have hk : 0 < k := by
            rcases hcons with z | z
            · exact z
            · rw [z] at hb; simp at hb
          have hm'l : m' < (lev t (k - 1)).length := by rw [lev_len W]; exact (List.getElem?_eq_some_iff.mp f1).1
          have hsg : (lev t (k - 1))[m']? = some ((lev t (k - 1)).getD m' .opn) := by rw [List.getD_eq_getElem?_getD, List.getElem?_eq_getElem hm'l]; rfl
          refine iteF (dss_cons (ds_set 12 (de_call (ih (k - 1) (by omega)) hr (by omega) (da_cons (de_var 0 rfl (da_cons (de_var 1 rfl (da_cons (de_var 8 rfl ?_))))))) scUnlike.nd))
          refine da_cons (de_var 10 rfl (da_cons (de_var 11 rfl (da_cons (de_var 4 rfl (da_cons (de_var 5 rfl (da_nil ?_))))))))
          refine ⟨t, n, m', b, r, rest, L, md', _, x, W, by omega, f1, hsg, hxs, okL, w3, w2, hb, ?_, fun ex tree ht => ?_, fun n1 a1 ps1 ex hne => ?_, fun hL => ?_⟩
          · have : k - 1 + 2 = k + 1 := by omega
            rw [this]
          · exact dss_nil ⟨_, .inl ⟨_, rfl, by have h := unl_call W hm hr1 htm hst ⟨md', f1, f2⟩ ht; rwa [show k - 1 + 2 + 1 = k + 2 by omega] at h⟩, rfl⟩
          · subst ex
            exact dss_nil ⟨_, .inl ⟨_, rfl, unl_leaf W hm hr1 htm hst ⟨md', f1, f2⟩ (k - 1) hsg hxs hne (by omega)⟩, rfl⟩
          · exact dss_nil ⟨_, .inr ⟨rfl, x, hx, hL⟩, rfl⟩
        · have et : decide (tagT (.put nn kk a ps) = "put") = true := decide_eq_true rfl
          rw [et]
          refine iteT (dss_cons (ds_set 12 (de_call (has_unlikePut T (lv := 5)) hr (by omega) (da_cons (de_var 0 rfl (da_cons (de_var 8 rfl ?_))))) scUnlike.nd))
          refine da_cons (de_var 10 rfl (da_cons (de_var 5 rfl (da_nil ?_))))
          refine ⟨t, r, nn, kk, a, ps, L, W.wood, w3, w2, okh.1, okL, rfl, fun mark hne => ?_, fun hkk hL => ?_⟩
          · exact dss_nil ⟨_, .inl ⟨_, rfl, unl_put W hm hr1 htm hst mark hne (by omega)⟩, rfl⟩
          · refine dss_nil ⟨_, .inr ⟨rfl, _, hx, ?_⟩, rfl⟩
            subst hkk hL
            rw [stumpIn]
            exact ⟨stumpIns (lev t (k - 1)) ps, rfl, by rw [stumpIns_map, List.length_map]⟩
      · obtain ⟨d, hd, rfl⟩ := hN
        refine dss_cons (ds_if (dt_cmp op_notN (de_var 12 rfl (de_non (rd_notN ⟨_, rfl, ?_⟩)))))
        rcases hd with ⟨tree, rfl, hU⟩ | ⟨rfl, hL⟩
        · rw [isNone_encR]
          exact iteT (dss_cons (ds_ret (de_var 12 rfl (q tree hU))))
        · exact iteF (dss_nil (dss_nil (dss_nil ⟨_, _, _, _, _, step True fun _ => hL, rfl⟩)))
  · obtain ⟨x1, x2, x3, x4, x5, hdone, rfl⟩ := hPv
    refine (lev_rows W k hm hs hP fun i r tm h1 h2 h3 => hdone i r tm ?_ h1 h2 h3).elim
    have e1 : (zipD ((rowsOf t.wood md.1).map encRow) (encTs md.2)).length = (rowsOf t.wood md.1).length := by
      unfold zipD; rw [List.length_zipWith, List.length_map, encTs_len, W.len md mm, Nat.min_self]
    rw [e1]
    exact (List.getElem?_eq_some_iff.mp h1).1
theorem has_unlike (T : Tx K mg) : ∀ k, Has P w K mg base "unlike" (10 + 2 * k) ["turning", "tables", "mode", "place", "many", "label"] (spP (F_unlike k))
  | 0 => ok_unlike T fun j h => by omega
  | k + 1 => ok_unlike T fun j h => by
    have e : j = k := by omega
    subst e
    exact has_unlikeCall T (has_unlike T j)
end
end WK

set_option Elab.async false
set_option linter.all false
set_option maxRecDepth 100000
set_option maxHeartbeats 4000000
namespace WK
open PySem PySem.Spec PyProof.Rows L2 DL TM
theorem units65 {k : Nat} {A : Around} (r : Room k A) : A.units + 65 < cLine := by have := r.un; omega
theorem any_encP (ps : List (List Nat)) (p : List Nat) : ((ps.map encP).any fun z => PyData.eqv z (encP p)) = true ↔ p ∈ ps := by
  rw [List.any_eq_true]
  constructor
  · rintro ⟨x, hx, e⟩
    obtain ⟨q, hq, rfl⟩ := List.mem_map.mp hx
    rw [eqv_encP] at e
    subst e; exact hq
  · intro h
    exact ⟨encP p, List.mem_map.mpr ⟨p, h, rfl⟩, (eqv_encP p p).mpr rfl⟩
section
variable {P : Program} {w : World} {K : PySem.W.Frag} {mg : Str → Option Value} {base : Heap}
/-! ### pair_at -/
def F_pairAt : List PyData → (PyData → Prop) → Prop := fun ds Ψ => ∃ (T : Turning) (n m k : Nat) (p : List Nat) (md : Mode) (s : Stump), WF T ∧ k ≤ 36 ∧ k + 1 ≤ n ∧ T.modes[m]? = some md ∧ (lev T k)[m]? = some s ∧ stumpAt s p = some .opn ∧
  ds = [encTurning T, .list (tabs T n), .int ((m : Nat) : Int), encP p, .int ((k + 1 : Nat) : Int)] ∧ ∀ tree L, labelAt (out T (leafOf T.wood md.1) m) p = some L → Unl T m p L 38 tree → Ψ (.tuple [encR (leafOf T.wood md.1), encR tree])
abbrev sPairAt : Stmt := topS 28
abbrev nPairAt : List Str := ["turning", "tables", "mode", "place", "many", "leaf"]
theorem scPairAt : FnScope nPairAt ["turning", "tables", "mode", "place", "many"] (defScope sPairAt) := ⟨rfl, rfl, rfl, by decide +kernel, rfl, by decide +kernel, by decide +kernel⟩
theorem has_pairAt (T : Tx K mg) : Has P w K mg base "pair_at" 84 ["turning", "tables", "mode", "place", "many"] (spP F_pairAt) := hasOf T.d_pair_at fun f fd Fn => by
  refine okP Fn scPairAt (fun ds Ψ h => by obtain ⟨_, _, _, _, _, _, _, _, _, _, _, _, _, rfl, _⟩ := h; rfl) fun cdv A outer s H E hr ds Ψ h => ?_
  obtain ⟨t, n, m, k, p, md, sm, W, hk, hn, hm, hs, hP, rfl, q⟩ := h
  have mm := List.mem_of_getElem? hm
  obtain ⟨nn, nm, kk, a, ps, tm, l1, l2, l3, l4, l5⟩ := leaf_label W hm hs hP
  refine dss_cons (ds_set 5 (de_call (has_leafOf T (lv := 8)) hr (by omega) (da_cons (de_ixc (de_var 0 rfl ⟨_, _, .inl rfl, rfl, ?_⟩)))) scPairAt.nd)
  refine da_cons (de_ixc (de_ix (de_ixc (de_var 0 rfl ⟨_, _, .inl rfl, rfl, de_var 2 rfl ⟨_, _, encMode md, .inl rfl, rfl, atI_c (by rw [List.getElem?_map, hm]; rfl), ?_⟩⟩))))
  refine ⟨_, _, .inl rfl, rfl, da_nil ⟨t.wood, md.1, rfl, rowsOk_of W.wood (W.kind md mm), ?_⟩⟩
  refine dss_cons (ds_ret (de_tup (da_cons (de_var 5 rfl (da_cons (de_call (has_unlike T k) hr (by omega) ?_))))))
  refine da_cons (de_var 0 rfl (da_cons (de_var 1 rfl (da_cons (de_var 2 rfl (da_cons (de_var 3 rfl (da_cons (de_var 4 rfl ?_)))))))))
  refine da_cons (de_call (has_leafLabel T (lv := 8)) hr (by omega) (da_cons (de_var 0 rfl (da_cons (de_var 2 rfl (da_cons (de_var 3 rfl (da_nil ?_))))))))
  refine ⟨t, m, md, p, nm, tm, nn, kk, a, ps, W, hm, rfl, l1, l2, l3, da_nil ?_⟩
  refine ⟨t, n, m, p, (nn, a, ps.length), md, sm, W, hn, hm, hs, hP, l5, rfl, fun tree hU => da_nil ⟨le1 rfl, q tree _ l4 ⟨by have := hU.deep; omega, hU.kind, hU.ok, hU.lab⟩⟩⟩
/-! ### split -/
def F_split : List PyData → (PyData → Prop) → Prop := fun ds Ψ => ∃ (T : Turning) (m N : Nat) (p : List Nat) (md : Mode) (s : Stump), WF T ∧ N ≤ 36 ∧ lev T (N + 1) = lev T N ∧ (∀ i, i < N → lev T (i + 1) ≠ lev T i) ∧ T.modes[m]? = some md ∧ (lev T N)[m]? = some s ∧ p ∈ opensL s ∧
  ds = [encTurning T, .int ((m : Nat) : Int), encP p] ∧ ∀ tree L, labelAt (out T (leafOf T.wood md.1) m) p = some L → Unl T m p L 38 tree → Ψ (.tuple [encR (leafOf T.wood md.1), encR tree])
theorem first_fix {t : Turning} {N M : Nat} (h1 : lev t (N + 1) = lev t N) (h2 : ∀ i, i < N → lev t (i + 1) ≠ lev t i) (h3 : lev t (M + 1) = lev t M) (h4 : ∀ i, i < M → lev t (i + 1) ≠ lev t i) : N = M := by
  rcases Nat.lt_trichotomy N M with h | h | h
  · exact absurd h1 (h4 N h)
  · exact h
  · exact absurd h3 (h2 M h)
abbrev sSplit : Stmt := topS 29
abbrev nSplit : List Str := ["turning", "mode", "place", "tables", "k", "stumps"]
theorem scSplit : FnScope nSplit ["turning", "mode", "place"] (defScope sSplit) := ⟨rfl, rfl, rfl, by decide +kernel, rfl, by decide +kernel, by decide +kernel⟩
theorem has_split (T : Tx K mg) : Has P w K mg base "split" 85 ["turning", "mode", "place"] (spP F_split) := hasOf T.d_split fun f fd Fn => by
  refine okP Fn scSplit (fun ds Ψ h => by obtain ⟨_, _, _, _, _, _, _, _, _, _, _, _, _, rfl, _⟩ := h; rfl) fun cdv A outer s H E hr ds Ψ h => ?_
  obtain ⟨t, m, N, p, md, sm, W, hN, hfix, hmin, hm, hs, hp, rfl, q⟩ := h
  have opn : ∀ (k : Nat) (x : Stump) (Ψ : PyData → Prop), (lev t k)[m]? = some x → Ψ (.list ((opensL x).map encP)) → F_opens 3 [encS x] Ψ := fun k x Ψ h1 h2 => by
    obtain ⟨g1, g2⟩ := lev_ok W k x (List.mem_of_getElem? h1)
    exact ⟨x, rfl, g1, g2, by omega, Nat.le_trans (opens_few W k h1) (by decide), h2⟩
  have getS : ∀ k, ∃ x, (lev t k)[m]? = some x := fun k => by
    have : m < (lev t k).length := by rw [lev_len W]; exact (List.getElem?_eq_some_iff.mp hm).1
    exact ⟨_, List.getElem?_eq_getElem this⟩
  refine dss_cons (ds_if (dt_cmp (op_notInD (units65 hr)) (de_var 2 rfl (de_call (has_opens T 3) hr (by omega) (da_cons (de_ix (de_call (has_commons T) hr (by omega) (da_cons (de_var 0 rfl (da_nil ⟨t, W, rfl, fun M hM hfix' hmin' => ?_⟩))))))))))
  have eM := first_fix hfix' hmin' hfix hmin
  subst eM
  refine de_var 1 rfl ⟨_, _, encS sm, .inl rfl, rfl, atI_c (by rw [encSs_get, hs]; rfl), da_nil (opn M sm _ hs (rd_notInD (shaped_P p) (shaped_Ps _) ⟨_, rfl, ?_⟩))⟩
  rw [(any_encP _ p).mpr hp]
  refine iteF (dss_nil (dss_cons (ds_set 3 (de_call (has_byLevels T) hr (by omega) (da_cons (de_var 0 rfl (da_cons (de_int (da_nil ⟨t, W, rfl, fun M' hM' hfix2 hmin2 => ?_⟩)))))) scSplit.nd)))
  have eM := first_fix hfix2 hmin2 hfix hmin
  subst eM
  refine dss_cons (ds_for2 4 5 (di_enumL T.z_enumerate (de_var 3 rfl ⟨_, rfl, ?_⟩)) scSplit.nd PassesOwn.never)
  refine ⟨fun i δ' => ∃ u v, (∀ j, j < i → ∀ x, (lev t j)[m]? = some x → p ∉ opensL x) ∧ δ' = [.dt (encTurning t), .dt (.int ((m : Nat) : Int)), .dt (encP p), .dt (.list (tabs t (M' + 1))), u, v], ⟨_, _, fun j h => by omega, rfl⟩, fun i d δ' e hPv => ?_, fun δ' hPv => ?_⟩
  · obtain ⟨u, v, hno, rfl⟩ := hPv
    obtain ⟨d1, e1, rfl⟩ := enumD_get e
    have hi : i < M' + 1 := by have := (List.getElem?_eq_some_iff.mp e1).1; rwa [tabs_len] at this
    rw [tabs_get t hi] at e1
    cases e1
    obtain ⟨x, hx⟩ := getS i
    refine ⟨_, _, rfl, dss_cons (ds_if (dt_cmp (op_inD (units65 hr)) (de_var 2 rfl (de_call (has_opens T 3) hr (by omega) (da_cons (de_ix (de_var 5 rfl (de_var 1 rfl ⟨_, _, encS x, .inl rfl, rfl, atI_c (by rw [encSs_get, hx]; rfl), da_nil (opn i x _ hx (rd_inD (shaped_P p) (shaped_Ps _) ⟨_, rfl, ?_⟩))⟩))))))))⟩
    refine ite2 (fun c => ?_) (fun c => ?_)
    · have hpx := (any_encP _ p).mp c
      refine dss_cons (ds_ret (de_call (has_pairAt T) hr (by omega) (da_cons (de_var 0 rfl (da_cons (de_var 3 rfl (da_cons (de_var 1 rfl ?_))))))))
      refine da_cons (de_var 2 rfl (da_cons (de_op op_add (de_var 4 rfl (de_int (rd_add (da_nil ⟨t, M' + 1, m, i, p, md, x, W, by omega, by omega, hm, hx, mem_opens.mp hpx, ?_, q⟩)))))))
      have : ((i : Nat) : Int) + 1 = ((i + 1 : Nat) : Int) := by omega
      rw [this]
    · refine dss_nil (dss_nil ⟨_, _, fun j hj y hy => ?_, rfl⟩)
      rcases Nat.lt_succ_iff_lt_or_eq.mp hj with hj | rfl
      · exact hno j hj y hy
      · rw [hx] at hy; cases hy
        exact fun z => c ((any_encP _ p).mpr z)
  · obtain ⟨u, v, hno, rfl⟩ := hPv
    rw [enumD_len, tabs_len] at hno
    exact absurd hp (hno M' (by omega) sm hs)
end
end WK

set_option Elab.async false
set_option linter.all false
set_option maxRecDepth 100000
set_option maxHeartbeats 4000000
namespace WK
open PySem PySem.Spec PyProof.Rows L2 DL TM
theorem kb_tup : kitB "tuple" "tuple" = some true := by decide +kernel
theorem kb_str : kitB "str" "str" = some true := by decide +kernel
theorem kb_int : kitB "int" "int" = some true := by decide +kernel
theorem kb_ib : kitB "int" "bool" = some false := by decide +kernel
theorem kb_list : kitB "list" "list" = some true := by decide +kernel
theorem bt_tuple : bootBuiltins (Str.ofString "tuple") = some (.type "tuple") := by decide +kernel
theorem bt_str : bootBuiltins (Str.ofString "str") = some (.type "str") := by decide +kernel
theorem bt_int : bootBuiltins (Str.ofString "int") = some (.type "int") := by decide +kernel
theorem bt_bool : bootBuiltins (Str.ofString "bool") = some (.type "bool") := by decide +kernel
theorem bt_list : bootBuiltins (Str.ofString "list") = some (.type "list") := by decide +kernel
section
variable {P : Program} {w : World} {K : PySem.W.Frag} {mg : Str → Option Value} {base : Heap}
/-! ### _law_whole -/
def F_whole : List PyData → (PyData → Prop) → Prop := fun ds Ψ => ∃ i : Int, ds = [.int i] ∧ Ψ (.bool true)
abbrev sWhole : Stmt := topS 44
theorem scWhole : FnScope ["_law_found"] ["_law_found"] (defScope sWhole) := ⟨rfl, rfl, rfl, by decide +kernel, rfl, by decide +kernel, by decide +kernel⟩
theorem has_whole (T : Tx K mg) {lv : Nat} : Has P w K mg base "_law_whole" (lv + 1) ["_law_found"] (spP F_whole) := hasOf T.d_law_whole fun f fd Fn => by
  refine okP Fn scWhole (fun ds Ψ h => by obtain ⟨_, rfl, _⟩ := h; rfl) fun cdv A outer s H E hr ds Ψ h => ?_
  obtain ⟨i, rfl, q⟩ := h
  refine dss_cons (ds_ret (de_and (de_isi T.z_isinstance T.z_int bt_int (de_var 0 rfl ⟨_, kb_int, true, rfl, ?_⟩))))
  exact iteT (de_one (de_not (de_isi T.z_isinstance T.z_bool bt_bool (de_var 0 rfl ⟨_, kb_ib, false, rfl, q⟩))))
/-! ### _law_is_stump -/
def F_isStump (n : Nat) : List PyData → (PyData → Prop) → Prop := fun ds Ψ => ∃ s : Stump, ds = [encS s] ∧ s.ok ∧ s.deep ≤ n ∧ n ≤ 20 ∧ Ψ (.bool true)
abbrev sIsStump : Stmt := topS 45
abbrev nIsStump : List Str := ["_law_found", "_law_part"]
theorem scIsStump : FnScope nIsStump ["_law_found"] (defScope sIsStump) := ⟨rfl, rfl, rfl, by decide +kernel, rfl, by decide +kernel, by decide +kernel⟩
theorem shaped_open : SeqAt.shaped (encS .opn) = true := shaped_S trivial (by decide)
theorem tyS (s : Stump) : tyD (encS s) = "tuple" := by cases s <;> rfl
theorem eqv_open (s : Stump) : PyData.eqv (encS s) (.tuple [.str "open"]) = true ↔ s = .opn := eqv_encS s .opn
theorem ok_isStump {n : Nat} (T : Tx K mg) (ih : ∀ m, m + 1 = n → Has P w K mg base "_law_is_stump" (m + 2) ["_law_found"] (spP (F_isStump m))) :
    Has P w K mg base "_law_is_stump" (n + 2) ["_law_found"] (spP (F_isStump n)) := hasOf T.d_law_is_stump fun f fd Fn => by
  refine okP Fn scIsStump (fun ds Ψ h => by obtain ⟨_, rfl, _⟩ := h; rfl) fun cdv A outer s H E hr ds Ψ h => ?_
  obtain ⟨s, rfl, ok, hd, hn, q⟩ := h
  refine dss_cons (ds_if (dt_of (dw_or (dt_not (dt_val (de_isi T.z_isinstance T.z_tuple bt_tuple (de_var 0 rfl ⟨true, by rw [tyS]; exact kb_tup, true, rfl, ?_⟩)))))))
  refine iteF (dw_or1 (dt_cmp op_eq (de_len T.z_len (de_var 0 rfl ⟨_, .inr (encS_eq s), de_int (rd_eqI ⟨_, rfl, ?_⟩)⟩))))
  have e0 : decide ((((PyData.str (tagS s) :: tlS s).length : Nat) : Int) = 0) = false := decide_eq_false (by simp; omega)
  rw [e0]
  refine iteF (dss_nil (dss_cons (ds_if (dt_cmp (op_eqD hr.units) (de_var 0 rfl (de_tup (da_cons (de_str (da_nil ⟨le1 rfl, rd_eqD (shaped_S ok (by omega)) shaped_open ⟨_, rfl, ?_⟩⟩)))))))))
  refine ite2 (fun c => dss_cons (ds_ret (de_bl q))) (fun c => ?_)
  cases s with
  | opn => exact absurd ((eqv_open _).mpr rfl) c
  | put n1 m1 ps =>
    refine dss_nil (dss_cons (ds_if (dt_of (dw_or (dt_cmp op_ne (de_len T.z_len (de_var 0 rfl ⟨_, .inr rfl, de_int (rd_neI ⟨_, rfl, ?_⟩)⟩)))))))
    refine iteF (dw_or (dt_cmp op_ne (de_ixc (de_var 0 rfl ⟨_, _, .inl rfl, rfl, de_str (rd_neS ⟨_, rfl, ?_⟩)⟩))))
    have e1 : (!decide (("put" : Str) = "put")) = false := by rw [decide_eq_true rfl]; rfl
    rw [e1]
    refine iteF (dw_or (dt_not (dt_val (de_isi T.z_isinstance T.z_str bt_str (de_ixc (de_var 0 rfl ⟨_, _, .inl rfl, rfl, true, kb_str, true, rfl, ?_⟩))))))
    refine iteF (dw_or1 (dt_not (dt_val (de_call (has_whole T (lv := 0)) hr (by omega) (da_cons (de_ixc (de_var 0 rfl ⟨_, _, .inl rfl, rfl, da_nil ⟨m1, rfl, true, rfl, ?_⟩⟩)))))))
    refine iteF (dss_nil (dss_cons (ds_if (dt_not (dt_val (de_isi T.z_isinstance T.z_tuple bt_tuple (de_ixc (de_var 0 rfl ⟨_, _, .inl rfl, rfl, true, kb_tup, true, rfl, ?_⟩))))))))
    refine iteF (dss_nil (dss_cons (ds_for 1 (di_tup (de_ixc (de_var 0 rfl ⟨_, _, .inl rfl, rfl, _, rfl, ?_⟩))) scIsStump.nd PassesOwn.never)))
    refine ⟨fun i δ' => ∃ y, δ' = [.dt (encS (.put n1 m1 ps)), y], ⟨_, rfl⟩, fun i d δ' e hP => ?_, fun δ' hP => ?_⟩
    · obtain ⟨y, rfl⟩ := hP
      rw [encSs_get] at e
      obtain ⟨p, hp, rfl⟩ := Option.map_eq_some_iff.mp e
      have mp := List.mem_of_getElem? hp
      have hdp : p.deep ≤ Stump.deeps ps := Stump.deep_mem mp
      have hd' : Stump.deeps ps + 1 ≤ n := hd
      refine dss_cons (ds_if (dt_not (dt_val (de_call (ih (n - 1) (by omega)) hr (by omega) (da_cons (de_var 1 rfl (da_nil ⟨p, rfl, Stump.oks_mem ok.2.2 p mp, by omega, by omega, true, rfl, ?_⟩)))))))
      exact iteF (dss_nil (dss_nil ⟨_, rfl⟩))
    · obtain ⟨y, rfl⟩ := hP
      exact dss_cons (ds_ret (de_bl q))
theorem has_isStump (T : Tx K mg) : ∀ n, Has P w K mg base "_law_is_stump" (n + 2) ["_law_found"] (spP (F_isStump n))
  | 0 => ok_isStump T fun m h => by omega
  | n + 1 => ok_isStump T fun m h => by
    have e : m = n := by omega
    subst e
    exact has_isStump T m
/-! ### _law_opens -/
abbrev sLOpens : Stmt := topS 46
abbrev nLOpens : List Str := ["_law_stump", "_law_due", "_law_k", "_law_place"]
theorem scLOpens : FnScope nLOpens ["_law_stump"] (defScope sLOpens) := ⟨rfl, rfl, rfl, by decide +kernel, rfl, by decide +kernel, by decide +kernel⟩
theorem ok_lopens {n : Nat} (T : Tx K mg) (ih : ∀ m, m + 1 = n → Has P w K mg base "_law_opens" (m + 1) ["_law_stump"] (spP (F_opens m))) :
    Has P w K mg base "_law_opens" (n + 1) ["_law_stump"] (spP (F_opens n)) := hasOf T.d_law_opens fun f fd Fn => by
  refine okP Fn scLOpens (fun ds Ψ h => by obtain ⟨a, rfl, _⟩ := h; rfl) fun cdv A outer s H E hr ds Ψ h => ?_
  obtain ⟨s, rfl, ok, hd, hd1, hl, q⟩ := h
  refine dss_cons (ds_if (dt_cmp op_eq (de_ixc (de_var 0 rfl ⟨_, _, .inl (encS_eq _), rfl, de_str (rd_eqS ⟨_, rfl, ?_⟩)⟩))))
  refine ite2 (fun c => ?_) (fun c => ?_)
  · rw [tagS_open c] at q
    exact dss_cons (ds_ret (de_dl (dl_lst (da_cons (de_tup (da_nil ⟨le1 rfl, da_nil ⟨le1 rfl, q⟩⟩))))))
  obtain ⟨n1, m1, ps, rfl⟩ := tagS_put c
  have hd1' : Stump.deeps ps + 1 ≤ 100 := hd1
  have hl' : (opensLs 0 ps).length ≤ 1000 := hl
  have hd' : Stump.deeps ps + 1 ≤ n := hd
  refine dss_nil (dss_cons (ds_set 1 (de_dl (dl_lst (da_nil ⟨le1 rfl, ?_⟩))) scLOpens.nd))
  refine dss_cons (ds_for 2 (di_range T.z_range (de_len T.z_len (de_ixc (de_var 0 rfl ⟨_, _, .inl rfl, rfl, _, .inr rfl, _, rfl, ?_, ?_⟩)))) scLOpens.nd PassesOwn.never)
  · rw [encSs_len]; have := ok.2.1; omega
  refine ⟨fun i δ' => ∃ x y, δ' = [.dt (encS (.put n1 m1 ps)), .dt (.list ((opensLs 0 (ps.take i)).map encP)), x, y], ⟨_, _, rfl⟩, fun i d δ' e hP => ?_, fun δ' hP => ?_⟩
  · obtain ⟨x, y, rfl⟩ := hP
    obtain ⟨hi, rfl⟩ := rngD_get e
    rw [encSs_len] at hi
    have hp : ps[i]? = some ps[i] := List.getElem?_eq_getElem hi
    have mp := List.mem_of_getElem? hp
    have hdp : ps[i].deep ≤ Stump.deeps ps := Stump.deep_mem mp
    have hle := opensLs_le (ps := ps) (i + 1)
    rw [opensLs_take hp, List.length_append, List.length_map] at hle
    refine dss_cons (ds_set 1 (de_op op_cat (de_var 1 rfl (de_dl (dl_lc 3 (blkOk_by (N := nLOpens) (sc := defScope sLOpens) (by decide +kernel)) scLOpens.nd ?_)))) scLOpens.nd)
    refine di_list (de_call (ih (n - 1) (by omega)) hr (by omega) (da_cons (de_ix (de_ixc (de_var 0 rfl ⟨_, _, .inl rfl, rfl, de_var 2 rfl ⟨_, _, encS ps[i], .inr rfl, rfl, atI_c (by rw [encSs_get, hp]; rfl), ?_⟩⟩)))))
    refine da_nil ⟨ps[i], rfl, Stump.oks_mem ok.2.2 _ mp, by omega, by omega, by omega, _, rfl, ?_⟩
    refine LcAsk.res (((opensL ps[i]).map (i :: ·)).map encP) (by rw [List.length_map]; omega) (by simp) (fun j d g s H0 Cl cl fp => ?_) (rd_catL ?_ ?_)
    · rw [List.getElem?_map] at g
      obtain ⟨pl, hpl, rfl⟩ := Option.map_eq_some_iff.mp g
      refine de_op op_catA (de_tup (da_cons (de_var 2 rfl (da_nil ⟨le1 rfl, de_var 3 rfl (rd_catT ?_ ?_)⟩))))
      · have := opensL_len ps[i] pl (List.mem_of_getElem? hpl)
        show 1 + (pl.map encNat).length ≤ 1000000
        rw [List.length_map]; omega
      · rw [List.getElem?_map, List.getElem?_map, hpl]
        rfl
    · simp only [List.length_map]; omega
    · refine dss_nil ⟨.dt (.int ((i : Nat) : Int)), y, ?_⟩
      rw [← List.map_append, ← opensLs_take hp]
      rfl
  · obtain ⟨x, y, rfl⟩ := hP
    rw [rngD_len, encSs_len, List.take_length]
    exact dss_cons (ds_ret (de_var 1 rfl q))
theorem has_lopens (T : Tx K mg) : ∀ n, Has P w K mg base "_law_opens" (n + 1) ["_law_stump"] (spP (F_opens n))
  | 0 => ok_lopens T fun m h => by omega
  | n + 1 => ok_lopens T fun m h => by
    have e : m = n := by omega
    subst e
    exact has_lopens T m
end
end WK

set_option Elab.async false
set_option linter.all false
set_option maxRecDepth 100000
set_option maxHeartbeats 4000000
namespace WK
open PySem PySem.Spec PyProof.Rows L2 DL TM
/-! a comprehension with a test -/
theorem filter_take {α β : Type} {l : List α} {f : α → Bool} {g : α → β} {i : Nat} {a : α} (h : l[i]? = some a) : ((l.take (i + 1)).filter f).map g = ((l.take i).filter f).map g ++ (if f a then [g a] else []) := by
  rw [List.take_add_one, h, List.filter_append, List.map_append]
  show _ ++ List.map g (List.filter f [a]) = _
  rw [List.filter_cons]
  cases f a <;> rfl
section
variable {P : Program} {w : World} {K : PySem.W.Frag} {mg : Str → Option Value} {base : Heap}
/-! ### _law_rows -/
theorem rowsOf_filter : ∀ {wd : Wood} {k : Str}, k ∈ kinds wd → ∃ rs, ((wd.filter fun p => decide (p.1 = k)).map fun p => encRows p.2) = encRows (rowsOf wd k) :: rs
  | [], k, h => by simp [kinds] at h
  | (told, rows) :: wd, k, h => by
    rw [rowsOf, List.filter_cons]
    by_cases e : told = k
    · subst e
      rw [if_pos (decide_eq_true rfl), if_pos rfl]
      exact ⟨_, rfl⟩
    · rw [if_neg (by simpa using e), if_neg e]
      refine rowsOf_filter ?_
      unfold kinds at h
      rw [List.map_cons, List.mem_cons] at h
      rcases h with h | h
      · exact absurd h.symm e
      · exact h
def F_rows : List PyData → (PyData → Prop) → Prop := fun ds Ψ => ∃ wd k, ds = [encWood wd, .str k] ∧ wd.length ≤ 1000 ∧ k ∈ kinds wd ∧ Ψ (encRows (rowsOf wd k))
abbrev sRows : Stmt := topS 36
abbrev nRows : List Str := ["_law_wood_here", "_law_kind", "_law_told", "_law_rows_here"]
theorem scRows : FnScope nRows ["_law_wood_here", "_law_kind"] (defScope sRows) := ⟨rfl, rfl, rfl, by decide +kernel, rfl, by decide +kernel, by decide +kernel⟩
theorem has_rows (T : Tx K mg) {lv : Nat} : Has P w K mg base "_law_rows" (lv + 1) ["_law_wood_here", "_law_kind"] (spP F_rows) := hasOf T.d_law_rows fun f fd Fn => by
  refine okP Fn scRows (fun ds Ψ h => by obtain ⟨_, _, rfl, _⟩ := h; rfl) fun cdv A outer s H E hr ds Ψ h => ?_
  obtain ⟨wd, k, rfl, hl, hk, q⟩ := h
  refine dss_cons (ds_ret (de_ixc (de_dl (dl_lc2 2 3 (blkOk_by (N := nRows) (sc := defScope sRows) (by decide +kernel)) scRows.nd (di_list (de_var 0 rfl ⟨_, rfl, ?_⟩))))))
  refine ⟨by rw [List.length_map]; omega, fun i acc => acc = ((wd.take i).filter fun p => decide (p.1 = k)).map fun p => encRows p.2, by simp, fun i d acc e1 e2 => ?_, fun acc e => ?_⟩
  · rw [List.getElem?_map] at e1
    obtain ⟨r, hr1, rfl⟩ := Option.map_eq_some_iff.mp e1
    refine ⟨_, _, rfl, fun s H0 Cl cl fp => ?_⟩
    refine dt_cmp op_eq (de_var 2 rfl (de_var 1 rfl (rd_eqS ⟨_, rfl, ?_⟩)))
    refine ite2 (fun c => fun s H0 Cl cl fp => de_var 3 rfl ?_) (fun c => ?_)
    · show acc ++ _ = ((wd.take (i + 1)).filter fun p => decide (p.1 = k)).map fun p => encRows p.2
      rw [filter_take hr1, ← e2, if_pos c]
    · show acc = ((wd.take (i + 1)).filter fun p => decide (p.1 = k)).map fun p => encRows p.2
      rw [filter_take hr1, ← e2, if_neg c, List.append_nil]
  · rw [List.length_map, List.take_length] at e
    obtain ⟨rs, hrs⟩ := rowsOf_filter hk
    rw [e, hrs]
    exact ⟨_, _, .inr rfl, rfl, q⟩
/-! ### _law_rule_of -/
theorem ruleOf_filter : ∀ {rows : List TM.Row} {rules : List Term} {n : Str} {i : Nat} {t : Term}, rowNo rows n = some i → rules[i]? = some t → ∃ rs, (((rows.zip rules).filter fun p => decide (p.1.1 = n)).map fun p => encT p.2) = encT t :: rs
  | [], _, _, _, _, h, _ => by simp [rowNo] at h
  | r :: rows, [], _, _, _, _, h => by simp at h
  | r :: rows, u :: rules, n, i, t, h, h2 => by
    rw [List.zip_cons_cons, List.filter_cons]
    rw [rowNo] at h
    by_cases e : r.1 = n
    · rw [if_pos e] at h
      cases h
      simp at h2
      subst h2
      rw [if_pos (decide_eq_true e)]
      exact ⟨_, rfl⟩
    · rw [if_neg e] at h
      rw [if_neg (by simpa using e)]
      obtain ⟨j, hj, rfl⟩ := Option.map_eq_some_iff.mp h
      exact ruleOf_filter hj (by simpa using h2)
def F_lruleOf : List PyData → (PyData → Prop) → Prop := fun ds Ψ => ∃ (T : Turning) (m : Nat) (n : Str) (t : Term), WF T ∧ ds = [encTurning T, .int ((m : Nat) : Int), .str n] ∧ ruleOf T m n = some t ∧ Ψ (encT t)
abbrev sLRuleOf : Stmt := topS 50
abbrev nLRuleOf : List Str := ["_law_turning_here", "_law_mode", "_law_name_here", "_law_kind", "_law_rules", "_law_row", "_law_rule_here"]
theorem scLRuleOf : FnScope nLRuleOf ["_law_turning_here", "_law_mode", "_law_name_here"] (defScope sLRuleOf) := ⟨rfl, rfl, rfl, by decide +kernel, rfl, by decide +kernel, by decide +kernel⟩
theorem has_lruleOf (T : Tx K mg) {lv : Nat} : Has P w K mg base "_law_rule_of" (lv + 2) ["_law_turning_here", "_law_mode", "_law_name_here"] (spP F_lruleOf) := hasOf T.d_law_rule_of fun f fd Fn => by
  refine okP Fn scLRuleOf (fun ds Ψ h => by obtain ⟨_, _, _, _, _, rfl, _⟩ := h; rfl) fun cdv A outer s H E hr ds Ψ h => ?_
  obtain ⟨t, m, n, tm, W, rfl, hm, q⟩ := h
  obtain ⟨md, i0, h1, h2, h3⟩ := ruleOf_some hm
  have mm := List.mem_of_getElem? h1
  have wl : t.wood.length ≤ 1000 := Nat.le_trans W.wood.few.1 (by decide)
  have rl := W.wood.len md.1 (W.kind md mm)
  refine dss_cons (ds_unpack 3 4 (de_ix (de_ixc (de_var 0 rfl ⟨_, _, .inl rfl, rfl, de_var 1 rfl ⟨_, _, encMode md, .inl rfl, rfl, atI_c (by rw [List.getElem?_map, h1]; rfl), _, _, rfl, ?_⟩⟩))) scLRuleOf.nd)
  refine dss_cons (ds_ret (de_ixc (de_dl (dl_lc2 5 6 (blkOk_by (N := nLRuleOf) (sc := defScope sLRuleOf) (by decide +kernel)) scLRuleOf.nd (di_zip T.z_zip (de_call (has_rows T (lv := lv)) hr (by omega) ?_))))))
  refine da_cons (de_ixc (de_var 0 rfl ⟨_, _, .inl rfl, rfl, da_cons (de_var 3 rfl (da_nil ⟨t.wood, md.1, rfl, wl, W.kind md mm, de_var 4 rfl ⟨_, _, .inl ⟨rfl, rfl⟩, ?_⟩⟩))⟩))
  have hlen : (zipD ((rowsOf t.wood md.1).map encRow) (encTs md.2)).length = ((rowsOf t.wood md.1).zip md.2).length := by
    unfold zipD; rw [List.length_zipWith, List.length_map, encTs_len, List.length_zip]
  refine ⟨by rw [hlen, List.length_zip]; omega, fun i acc => acc = ((((rowsOf t.wood md.1).zip md.2).take i).filter fun p => decide (p.1.1 = n)).map fun p => encT p.2, by simp, fun i d acc e1 e2 => ?_, fun acc e => ?_⟩
  · obtain ⟨d1, d2, g1, g2, rfl⟩ := zipD_get e1
    rw [List.getElem?_map] at g1
    obtain ⟨r, hr1, rfl⟩ := Option.map_eq_some_iff.mp g1
    rw [encTs_get] at g2
    obtain ⟨u, hu, rfl⟩ := Option.map_eq_some_iff.mp g2
    have hz : ((rowsOf t.wood md.1).zip md.2)[i]? = some (r, u) := List.getElem?_zip_eq_some.mpr ⟨hr1, hu⟩
    refine ⟨_, _, rfl, fun s H0 Cl cl fp => ?_⟩
    refine dt_cmp op_eq (de_ixc (de_var 5 rfl ⟨_, _, .inl rfl, rfl, de_var 2 rfl (rd_eqS ⟨_, rfl, ?_⟩)⟩))
    refine ite2 (fun c => fun s H0 Cl cl fp => de_var 6 rfl ?_) (fun c => ?_)
    · show acc ++ _ = ((((rowsOf t.wood md.1).zip md.2).take (i + 1)).filter fun p => decide (p.1.1 = n)).map fun p => encT p.2
      rw [filter_take hz, ← e2, if_pos c]
    · show acc = ((((rowsOf t.wood md.1).zip md.2).take (i + 1)).filter fun p => decide (p.1.1 = n)).map fun p => encT p.2
      rw [filter_take hz, ← e2, if_neg c, List.append_nil]
  · rw [hlen, List.take_length] at e
    obtain ⟨rs, hrs⟩ := ruleOf_filter h2 h3
    rw [e, hrs]
    exact ⟨_, _, .inr rfl, rfl, q⟩
/-! ### _law_is_tree -/
def F_isTree (n : Nat) : List PyData → (PyData → Prop) → Prop := fun ds Ψ => ∃ (wd : Wood) (k : Str) (t : TM.Tree), GoodWood wd ∧ k ∈ kinds wd ∧ ofKind wd t k ∧ t.ok ∧ t.deep ≤ n ∧ ds = [encWood wd, .str k, encR t] ∧ Ψ (.bool true)
abbrev sIsTree : Stmt := topS 47
abbrev nIsTree : List Str := ["_law_wood_here", "_law_kind", "_law_found", "_law_name_here", "_law_branches", "_law_one", "_law_part"]
theorem scIsTree : FnScope nIsTree ["_law_wood_here", "_law_kind", "_law_found"] (defScope sIsTree) := ⟨rfl, rfl, rfl, by decide +kernel, rfl, by decide +kernel, by decide +kernel⟩
theorem notIn_trues (n : Nat) : inV (.bl false) (List.replicate n (V.bl true)) = false := by
  induction n with
  | zero => rfl
  | succ n ih => rw [List.replicate_succ]; simpa [inV, eqV] using ih
/-- False not in a list of truths -/
theorem rd_notInT {X : Cx} {Ψ : PyData → Prop} {n : Nat} (q : Ψ (.bool true)) : RD X (rIn X.K true) (.bool false) (.list (List.replicate n (.bool true))) Ψ := by
  intro C S σ H δ x y I hx hy Q k
  obtain ⟨a, xs, rfl, ha, hxs⟩ := hy.lst_inv
  have e : xs = List.replicate n (V.bl true) := by
    have key : ∀ (n : Nat) (xs : List V), Dds (Kn S H) xs (List.replicate n (.bool true)) → xs = List.replicate n (V.bl true) := by
      intro n
      induction n with
      | zero => intro xs h; cases h; rfl
      | succ n ih =>
        intro xs h
        rw [List.replicate_succ] at h
        cases h with
        | cons h1 h2 => cases h1; rw [ih _ h2, List.replicate_succ]
    exact key n xs hxs
  subst e
  rw [hx.bl_inv]
  refine ⟨a, _, rfl, .inl (.inl (.inl (kn_le _ _ ha))), rfl, ?_, ?_⟩
  · rw [List.all_replicate]; simp [flatV]
  · rw [notIn_trues]
    exact k _ H _ I (Fd.refl _) (.bl _) q
theorem ok_isTree {n : Nat} (T : Tx K mg) (ih : ∀ m, m + 1 = n → Has P w K mg base "_law_is_tree" (m + 2) ["_law_wood_here", "_law_kind", "_law_found"] (spP (F_isTree m))) :
    Has P w K mg base "_law_is_tree" (n + 2) ["_law_wood_here", "_law_kind", "_law_found"] (spP (F_isTree n)) := hasOf T.d_law_is_tree fun f fd Fn => by
  refine okP Fn scIsTree (fun ds Ψ h => by obtain ⟨_, _, _, _, _, _, _, _, rfl, _⟩ := h; rfl) fun cdv A outer s H E hr ds Ψ h => ?_
  obtain ⟨wd, k, t, W, hk, ht, ok, hd, rfl, q⟩ := h
  obtain ⟨nm, mk, bs⟩ := t
  obtain ⟨ks, hks, hkl, hkb⟩ := ht
  have wl : wd.length ≤ 1000 := Nat.le_trans W.few.1 (by decide)
  have hd' : Tree.deeps bs + 1 ≤ n := hd
  refine dss_cons (ds_if (dt_of (dw_or (dt_not (dt_val (de_isi T.z_isinstance T.z_tuple bt_tuple (de_var 2 rfl ⟨true, kb_tup, true, rfl, ?_⟩)))))))
  refine iteF (dw_or (dt_cmp op_ne (de_len T.z_len (de_var 2 rfl ⟨_, .inr rfl, de_int (rd_neI ⟨_, rfl, ?_⟩)⟩))))
  refine iteF (dw_or1 (dt_not (dt_val (de_isi T.z_isinstance T.z_str bt_str (de_ixc (de_var 2 rfl ⟨_, _, .inl rfl, rfl, true, kb_str, true, rfl, ?_⟩))))))
  refine iteF (dss_nil (dss_cons (ds_if (dt_of (dw_or (dt_not (dt_val (de_call (has_whole T (lv := 0)) hr (by omega) (da_cons (de_ixc (de_var 2 rfl ⟨_, _, .inl rfl, rfl, da_nil ⟨mk, rfl, true, rfl, ?_⟩⟩)))))))))))
  refine iteF (dw_or1 (dt_not (dt_val (de_isi T.z_isinstance T.z_tuple bt_tuple (de_ixc (de_var 2 rfl ⟨_, _, .inl rfl, rfl, true, kb_tup, true, rfl, ?_⟩))))))
  refine iteF (dss_nil (dss_cons (ds_for2 3 4 (di_list (de_call (has_rows T (lv := 0)) hr (by omega) (da_cons (de_var 0 rfl (da_cons (de_var 1 rfl (da_nil ⟨wd, k, rfl, wl, hk, _, rfl, ?_⟩))))))) scIsTree.nd PassesOwn.never)))
  obtain ⟨i0, hi0⟩ := List.mem_iff_getElem?.mp hks
  refine ⟨fun i δ' => ∃ x y, i ≤ i0 ∧ δ' = [.dt (encWood wd), .dt (.str k), .dt (encR (.node nm mk bs)), x, y, .no, .no], ⟨_, _, Nat.zero_le _, rfl⟩, fun i d δ' e hP => ?_, fun δ' hP => ?_⟩
  · obtain ⟨x, y, hi, rfl⟩ := hP
    rw [List.getElem?_map] at e
    obtain ⟨r, hr1, rfl⟩ := Option.map_eq_some_iff.mp e
    refine ⟨_, _, rfl, dss_cons (ds_if (dt_of (dw_and (dt_cmp op_eq (de_var 3 rfl (de_ixc (de_var 2 rfl ⟨_, _, .inl rfl, rfl, rd_eqS ⟨_, rfl, ?_⟩⟩)))))))⟩
    have nd := W.nd k hk
    refine ite2 (fun c => ?_) (fun c => ?_)
    · -- the row with the name is the one
      have en : r.1 = nm := of_decide_eq_true c
      have ei : i = i0 := by
        have e1 : ((rowsOf wd k).map (·.1))[i]? = some nm := by rw [List.getElem?_map, hr1]; exact congrArg some en
        have e2 : ((rowsOf wd k).map (·.1))[i0]? = some nm := by rw [List.getElem?_map, hi0]; rfl
        exact nd_ix nd e1 e2
      subst ei
      rw [hr1] at hi0
      cases hi0
      refine dw_and1 (dt_cmp op_eq (de_len T.z_len (de_var 4 rfl ⟨_, .inr rfl, de_len T.z_len (de_ixc (de_var 2 rfl ⟨_, _, .inl rfl, rfl, _, .inr rfl, rd_eqI ⟨_, rfl, ?_⟩⟩))⟩)))
      have el : decide ((((ks.map encStr).length : Nat) : Int) = (((encRs bs).length : Nat) : Int)) = true := decide_eq_true (by rw [List.length_map, encRs_len, hkl])
      rw [el]
      refine iteT (dss_cons (ds_ret (de_cmp op_notIn_seq (de_bl (de_dl (dl_lc2 5 6 (blkOk_by (N := nIsTree) (sc := defScope sIsTree) (by decide +kernel)) scIsTree.nd (di_zip T.z_zip (de_var 4 rfl ?_))))))))
      refine de_ixc (de_var 2 rfl ⟨_, _, .inl rfl, rfl, _, _, .inr ⟨rfl, rfl⟩, ?_⟩)
      refine LcAsk2.res (List.replicate (ks.map encStr).length (.bool true)) (by rw [List.length_map, hkl]; exact Nat.le_trans ok.2.1 (by decide)) (by rw [List.length_replicate]) (by rw [List.length_map, encRs_len, hkl]) (fun j d1 d2 g1 g2 s H0 Cl cl fp => ?_) (rd_notInT q)
      rw [List.getElem?_map] at g1
      obtain ⟨kj, hkj, rfl⟩ := Option.map_eq_some_iff.mp g1
      rw [encRs_get] at g2
      obtain ⟨bj, hbj, rfl⟩ := Option.map_eq_some_iff.mp g2
      have mb := List.mem_of_getElem? hbj
      have hbd : bj.deep ≤ Tree.deeps bs := Tree.deep_mem mb
      obtain ⟨b', hb', hof⟩ := ofKinds_get hkb hkl hkj
      rw [hbj] at hb'
      cases hb'
      refine de_call (ih (n - 1) (by omega)) hr (by omega) (da_cons (de_var 0 rfl (da_cons (de_var 5 rfl (da_cons (de_var 6 rfl (da_nil ⟨wd, kj, bj, W, (W.row k hk _ hks).2.2 kj (List.mem_of_getElem? hkj), hof, Tree.oks_mem ok.2.2 bj mb, by omega, rfl, ?_⟩)))))))
      have hj : j < (ks.map encStr).length := by rw [List.length_map]; exact (List.getElem?_eq_some_iff.mp hkj).1
      rw [List.getElem?_replicate, if_pos hj]
    · refine dss_nil (dss_nil ⟨_, _, ?_, rfl⟩)
      rcases Nat.lt_or_eq_of_le hi with h | h
      · exact h
      · subst h
        rw [hr1] at hi0
        cases hi0
        exact absurd (decide_eq_true rfl) c
  · obtain ⟨x, y, hi, rfl⟩ := hP
    rw [List.length_map] at hi
    have := (List.getElem?_eq_some_iff.mp hi0).1
    omega
theorem has_isTree (T : Tx K mg) : ∀ n, Has P w K mg base "_law_is_tree" (n + 2) ["_law_wood_here", "_law_kind", "_law_found"] (spP (F_isTree n))
  | 0 => ok_isTree T fun m h => by omega
  | n + 1 => ok_isTree T fun m h => by
    have e : m = n := by omega
    subst e
    exact has_isTree T m
end
end WK

set_option Elab.async false
set_option linter.all false
set_option maxRecDepth 100000
set_option maxHeartbeats 4000000
namespace WK
open PySem PySem.Spec PyProof.Rows L2 DL TM
section
variable {P : Program} {w : World} {K : PySem.W.Frag} {mg : Str → Option Value} {base : Heap}
/-! ### _law_begins -/
theorem beginss_get : ∀ {ps : List Stump} {bs : List TM.Tree} {i : Nat} {p : Stump} {b : TM.Tree}, beginss ps bs = true → ps[i]? = some p → bs[i]? = some b → begins p b = true
  | [], _, _, _, _, _, h, _ => by simp at h
  | _ :: _, [], _, _, _, _, _, h => by simp at h
  | p :: ps, b :: bs, 0, _, _, h, h1, h2 => by
    simp at h1 h2
    subst h1 h2
    rw [beginss, Bool.and_eq_true] at h
    exact h.1
  | p :: ps, b :: bs, i + 1, _, _, h, h1, h2 => by
    rw [beginss, Bool.and_eq_true] at h
    exact beginss_get h.2 (by simpa using h1) (by simpa using h2)
def F_begins (n : Nat) : List PyData → (PyData → Prop) → Prop := fun ds Ψ => ∃ (s : Stump) (t : TM.Tree), ds = [encS s, encR t] ∧ s.ok ∧ s.deep ≤ n ∧ begins s t = true ∧ Ψ (.bool true)
abbrev sBegins : Stmt := topS 53
abbrev nBegins : List Str := ["_law_stump", "_law_tree_here", "_law_part", "_law_branch"]
theorem scBegins : FnScope nBegins ["_law_stump", "_law_tree_here"] (defScope sBegins) := ⟨rfl, rfl, rfl, by decide +kernel, rfl, by decide +kernel, by decide +kernel⟩
theorem ok_begins {n : Nat} (T : Tx K mg) (ih : ∀ m, m + 1 = n → Has P w K mg base "_law_begins" (m + 1) ["_law_stump", "_law_tree_here"] (spP (F_begins m))) :
    Has P w K mg base "_law_begins" (n + 1) ["_law_stump", "_law_tree_here"] (spP (F_begins n)) := hasOf T.d_law_begins fun f fd Fn => by
  refine okP Fn scBegins (fun ds Ψ h => by obtain ⟨_, _, rfl, _⟩ := h; rfl) fun cdv A outer s H E hr ds Ψ h => ?_
  obtain ⟨s, t, rfl, ok, hd, hb, q⟩ := h
  refine dss_cons (ds_if (dt_cmp op_eq (de_ixc (de_var 0 rfl ⟨_, _, .inl (encS_eq _), rfl, de_str (rd_eqS ⟨_, rfl, ?_⟩)⟩))))
  refine ite2 (fun c => dss_cons (ds_ret (de_bl q))) (fun c => ?_)
  obtain ⟨n1, m1, ps, rfl⟩ := tagS_put c
  obtain ⟨nm, mk, bs⟩ := t
  rw [begins, Bool.and_eq_true] at hb
  obtain ⟨hb1, hb2⟩ := hb
  obtain ⟨rfl, rfl, hl⟩ := of_decide_eq_true hb1
  have hd' : Stump.deeps ps + 1 ≤ n := hd
  refine dss_nil (dss_cons (ds_if (dt_cmp (op_neD hr.units) (de_tup (da_cons (de_ixc (de_var 0 rfl ⟨_, _, .inl rfl, rfl, ?_⟩)))))))
  refine da_cons (de_ixc (de_var 0 rfl ⟨_, _, .inl rfl, rfl, da_cons (de_len T.z_len (de_ixc (de_var 0 rfl ⟨_, _, .inl rfl, rfl, _, .inr rfl, da_nil ⟨le1 rfl, ?_⟩⟩)))⟩))
  refine de_tup (da_cons (de_ixc (de_var 1 rfl ⟨_, _, .inl rfl, rfl, ?_⟩)))
  refine da_cons (de_ixc (de_var 1 rfl ⟨_, _, .inl rfl, rfl, da_cons (de_len T.z_len (de_ixc (de_var 1 rfl ⟨_, _, .inl rfl, rfl, _, .inr rfl, da_nil ⟨le1 rfl, ?_⟩⟩)))⟩))
  rw [encSs_len, encRs_len]
  refine rd_neD (d1 := encL (n1, m1, ps.length)) (d2 := encL (n1, m1, bs.length)) (shaped_L ok.1) (shaped_L ok.1) ⟨_, rfl, ?_⟩
  rw [(eqv_encL _ _).mpr (by rw [hl])]
  refine iteF (dss_nil (dss_cons (ds_for2 2 3 (di_zip T.z_zip (de_ixc (de_var 0 rfl ⟨_, _, .inl rfl, rfl, ?_⟩))) scBegins.nd PassesOwn.never)))
  refine de_ixc (de_var 1 rfl ⟨_, _, .inl rfl, rfl, _, _, .inr ⟨rfl, rfl⟩, ?_⟩)
  refine ⟨fun i δ' => ∃ x y, δ' = [.dt (encS (.put n1 m1 ps)), .dt (encR (.node n1 m1 bs)), x, y], ⟨_, _, rfl⟩, fun i d δ' e hP => ?_, fun δ' hP => ?_⟩
  · obtain ⟨x, y, rfl⟩ := hP
    obtain ⟨d1, d2, g1, g2, rfl⟩ := zipD_get e
    rw [encSs_get] at g1
    obtain ⟨p, hp, rfl⟩ := Option.map_eq_some_iff.mp g1
    rw [encRs_get] at g2
    obtain ⟨b, hbb, rfl⟩ := Option.map_eq_some_iff.mp g2
    have mp := List.mem_of_getElem? hp
    have hdp : p.deep ≤ Stump.deeps ps := Stump.deep_mem mp
    refine ⟨_, _, rfl, dss_cons (ds_if (dt_not (dt_val (de_call (ih (n - 1) (by omega)) hr (by omega) (da_cons (de_var 2 rfl (da_cons (de_var 3 rfl (da_nil ⟨p, b, rfl, Stump.oks_mem ok.2.2 p mp, by omega, beginss_get hb2 hp hbb, true, rfl, ?_⟩)))))))))⟩
    exact iteF (dss_nil (dss_nil ⟨_, _, rfl⟩))
  · obtain ⟨x, y, rfl⟩ := hP
    exact dss_cons (ds_ret (de_bl q))
theorem has_begins (T : Tx K mg) : ∀ n, Has P w K mg base "_law_begins" (n + 1) ["_law_stump", "_law_tree_here"] (spP (F_begins n))
  | 0 => ok_begins T fun m h => by omega
  | n + 1 => ok_begins T fun m h => by
    have e : m = n := by omega
    subst e
    exact has_begins T m
/-! ### _law_made, _law_made_by -/
def F_made (n : Nat) : List PyData → (PyData → Prop) → Prop := fun ds Ψ => ∃ (T : Turning) (m : Nat) (md : Mode) (t : TM.Tree), WF T ∧ T.modes[m]? = some md ∧ ofKind T.wood t md.1 ∧ t.deep ≤ n ∧ ds = [encTurning T, .int ((m : Nat) : Int), encR t] ∧ Ψ (encR (out T t m))
def F_madeBy (n d : Nat) : List PyData → (PyData → Prop) → Prop := fun ds Ψ => ∃ (T : Turning) (tm : Term) (nm : Str) (mk : Int) (bs : List TM.Tree) (ks : List Str), WF T ∧ tm.ok ∧ tm.deep ≤ d ∧ tm.calls (fits T.modes ks) ∧ ks.length = bs.length ∧ ofKinds T.wood bs ks ∧ TM.Tree.deeps bs ≤ n ∧
  ds = [encTurning T, encT tm, encR (.node nm mk bs)] ∧ Ψ (encR (inst mk (outs T bs) tm))
abbrev sMade : Stmt := topS 51
abbrev nMade : List Str := ["_law_turning_here", "_law_mode", "_law_tree_here"]
theorem scMade : FnScope nMade nMade (defScope sMade) := ⟨rfl, rfl, rfl, by decide +kernel, rfl, by decide +kernel, by decide +kernel⟩
abbrev sMadeBy : Stmt := topS 52
abbrev pMadeBy : List Str := ["_law_turning_here", "_law_term_here", "_law_tree_here"]
abbrev nMadeBy : List Str := ["_law_turning_here", "_law_term_here", "_law_tree_here", "_law_parts", "_law_part"]
theorem scMadeBy : FnScope nMadeBy pMadeBy (defScope sMadeBy) := ⟨rfl, rfl, rfl, by decide +kernel, rfl, by decide +kernel, by decide +kernel⟩
theorem ok_made {n : Nat} (T : Tx K mg) (ih : ∀ m, m + 1 = n → Has P w K mg base "_law_made_by" (5 * m + 6) pMadeBy (spP (F_madeBy m 3))) :
    Has P w K mg base "_law_made" (5 * n + 2) nMade (spP (F_made n)) := hasOf T.d_law_made fun f fd Fn => by
  refine okP Fn scMade (fun ds Ψ h => by obtain ⟨_, _, _, _, _, _, _, _, rfl, _⟩ := h; rfl) fun cdv A outer s H E hr ds Ψ h => ?_
  obtain ⟨t, m, md, tr, W, hm, hk, hd, rfl, q⟩ := h
  obtain ⟨nm, mk, bs⟩ := tr
  obtain ⟨i, ks, tm, h1, h2, h3, h4, h5, h6⟩ := ofKind_row W hm hk
  rw [out_rule h3] at q
  have hd' : TM.Tree.deeps bs + 1 ≤ n := hd
  refine dss_cons (ds_ret (de_call (ih (n - 1) (by omega)) hr (by omega) (da_cons (de_var 0 rfl (da_cons (de_call (has_lruleOf T (lv := 0)) hr (by omega) ?_))))))
  refine da_cons (de_var 0 rfl (da_cons (de_var 1 rfl (da_cons (de_ixc (de_var 2 rfl ⟨_, _, .inl rfl, rfl, da_nil ⟨t, m, nm, tm, W, rfl, h3, ?_⟩⟩))))))
  exact da_cons (de_var 2 rfl (da_nil ⟨t, tm, nm, mk, bs, ks, W, h4.ok, h4.deep, h4.calls, h5, h6, by omega, rfl, q⟩))
theorem ok_madeBy {n d : Nat} (T : Tx K mg) (ihM : Has P w K mg base "_law_made" (5 * n + 2) nMade (spP (F_made n))) (ihB : ∀ m, m + 1 = d → Has P w K mg base "_law_made_by" (5 * n + m + 3) pMadeBy (spP (F_madeBy n m))) :
    Has P w K mg base "_law_made_by" (5 * n + d + 3) pMadeBy (spP (F_madeBy n d)) := hasOf T.d_law_made_by fun f fd Fn => by
  refine okP Fn scMadeBy (fun ds Ψ h => by obtain ⟨_, _, _, _, _, _, _, _, _, _, _, _, _, rfl, _⟩ := h; rfl) fun cdv A outer s H E hr ds Ψ h => ?_
  obtain ⟨t, tm, nm, mk, bs, ks, W, ok, hd, hc, hl, hk, hb, rfl, q⟩ := h
  cases tm with
  | call m b =>
    obtain ⟨md, f1, f2⟩ := hc
    obtain ⟨br, g1, g2⟩ := ofKinds_get hk hl f2
    have hbr : br.deep ≤ TM.Tree.deeps bs := TM.Tree.deep_mem (List.mem_of_getElem? g1)
    have e : inst mk (outs t bs) (.call m b) = out t br m := by rw [inst, outs_get g1]
    rw [e] at q
    refine dss_cons (ds_if (dt_cmp op_eq (de_ixc (de_var 1 rfl ⟨_, _, .inl rfl, rfl, de_str (rd_eqS ⟨_, rfl, ?_⟩)⟩))))
    have e1 : decide (("call" : Str) = "call") = true := decide_eq_true rfl
    rw [e1]
    refine iteT (dss_cons (ds_ret (de_call ihM hr (by omega) (da_cons (de_var 0 rfl (da_cons (de_ixc (de_var 1 rfl ⟨_, _, .inl rfl, rfl, ?_⟩))))))))
    refine da_cons (de_ix (de_ixc (de_var 2 rfl ⟨_, _, .inl rfl, rfl, de_ixc (de_var 1 rfl ⟨_, _, .inl rfl, rfl, _, _, encR br, .inr rfl, rfl, atI_c (by rw [encRs_get, g1]; rfl), da_nil ⟨t, m, md, br, W, f1, g2, by omega, rfl, q⟩⟩)⟩)))
  | put n1 k a ps =>
    have hd' : Term.deeps ps + 1 ≤ d := hd
    refine dss_cons (ds_if (dt_cmp op_eq (de_ixc (de_var 1 rfl ⟨_, _, .inl rfl, rfl, de_str (rd_eqS ⟨_, rfl, ?_⟩)⟩))))
    have e1 : decide (("put" : Str) = "call") = false := decide_eq_false (by decide +kernel)
    rw [e1]
    refine iteF (dss_nil (dss_cons (ds_lc 3 4 (blkOk_by (N := nMadeBy) (sc := defScope sMadeBy) (by decide +kernel)) scMadeBy.nd ?_ (sw_true rfl rfl rfl (by decide +kernel)))))
    refine di_tup (de_ixc (de_var 1 rfl ⟨_, _, .inl rfl, rfl, _, rfl, ?_⟩))
    refine LcAsk.res (encRs (insts mk (outs t bs) ps)) (by rw [encTs_len]; exact Nat.le_trans ok.2.1 (by decide)) (by rw [encRs_len, encTs_len, insts_map, List.length_map]) (fun j g e s H0 Cl cl fp => ?_) ?_
    · rw [encTs_get] at e
      obtain ⟨p, hp, rfl⟩ := Option.map_eq_some_iff.mp e
      have mp := List.mem_of_getElem? hp
      have hpd : p.deep ≤ Term.deeps ps := Term.deep_mem mp
      refine de_call (ihB (d - 1) (by omega)) hr (by omega) (da_cons (de_var 0 rfl (da_cons (de_var 4 rfl (da_cons (de_var 2 rfl (da_nil ⟨t, p, nm, mk, bs, ks, W, Term.oks_mem ok.2.2 p mp, by omega, Term.callss_mem hc p mp, hl, hk, hb, rfl, ?_⟩)))))))
      rw [encRs_get, insts_map, List.getElem?_map, hp]
      rfl
    · refine dss_frz 3 rfl (dss_cons (ds_ret (de_tup (da_cons (de_ixc (de_var 1 rfl ⟨_, _, .inl rfl, rfl, ?_⟩))))))
      refine da_cons (de_op op_add (de_ixc (de_var 1 rfl ⟨_, _, .inl rfl, rfl, de_op op_mul (de_ixc (de_var 2 rfl ⟨_, _, .inl rfl, rfl, de_intOf T.z_int (de_ixc (de_var 1 rfl ⟨_, _, .inl rfl, rfl, _, rfl, ?_⟩))⟩))⟩)))
      refine rd_mul (.inr (by cases k <;> decide)) (rd_add ?_)
      exact da_cons (de_tupleOf T.z_tuple (de_var 3 rfl ⟨_, .inl rfl, da_nil ⟨le1 rfl, q⟩⟩))
theorem has_madeBys {n : Nat} (T : Tx K mg) (hM : Has P w K mg base "_law_made" (5 * n + 2) nMade (spP (F_made n))) : ∀ d, Has P w K mg base "_law_made_by" (5 * n + d + 3) pMadeBy (spP (F_madeBy n d))
  | 0 => ok_madeBy (d := 0) T hM fun m h => by omega
  | d + 1 => ok_madeBy (d := d + 1) T hM fun m h => by
    have e : m = d := by omega
    subst e
    exact has_madeBys T hM m
theorem has_made (T : Tx K mg) : ∀ n, Has P w K mg base "_law_made" (5 * n + 2) nMade (spP (F_made n))
  | 0 => ok_made T fun m h => by omega
  | n + 1 => ok_made T fun m h => by
    have e : m = n := by omega
    subst e
    exact has_madeBys T (has_made T m) 3
/-! ### _law_bare -/
mutual
def bareT : Term → Term
  | .call m b => .call m b
  | .put n _ a ps => .put n false a (bareTs ps)
def bareTs : List Term → List Term
  | [] => []
  | p :: ps => bareT p :: bareTs ps
end
theorem bareTs_map : ∀ ps, bareTs ps = ps.map bareT
  | [] => rfl
  | p :: ps => by rw [bareTs, bareTs_map ps]; rfl
theorem bareT_put (n : Str) (k : Bool) (a : Int) (ps : List Term) : bareT (.put n k a ps) = .put n false a (ps.map bareT) := by
  rw [bareT, bareTs_map]
def F_bare (n : Nat) : List PyData → (PyData → Prop) → Prop := fun ds Ψ => ∃ t : Term, t.ok ∧ t.deep ≤ n ∧ ds = [encT t] ∧ Ψ (encT (bareT t))
abbrev sBare : Stmt := topS 42
abbrev nBare : List Str := ["_law_term_here", "_law_part"]
theorem scBare : FnScope nBare ["_law_term_here"] (defScope sBare) := ⟨rfl, rfl, rfl, by decide +kernel, rfl, by decide +kernel, by decide +kernel⟩
theorem ok_bare {n : Nat} (T : Tx K mg) (ih : ∀ m, m + 1 = n → Has P w K mg base "_law_bare" (m + 1) ["_law_term_here"] (spP (F_bare m))) :
    Has P w K mg base "_law_bare" (n + 1) ["_law_term_here"] (spP (F_bare n)) := hasOf T.d_law_bare fun f fd Fn => by
  refine okP Fn scBare (fun ds Ψ h => by obtain ⟨_, _, _, rfl, _⟩ := h; rfl) fun cdv A outer s H E hr ds Ψ h => ?_
  obtain ⟨t, ok, hd, rfl, q⟩ := h
  cases t with
  | call m b =>
    refine dss_cons (ds_if (dt_cmp op_eq (de_ixc (de_var 0 rfl ⟨_, _, .inl rfl, rfl, de_str (rd_eqS ⟨_, rfl, ?_⟩)⟩))))
    have e1 : decide (("call" : Str) = "call") = true := decide_eq_true rfl
    rw [e1]
    rw [bareT] at q
    exact iteT (dss_cons (ds_ret (de_var 0 rfl q)))
  | put n1 k a ps =>
    have hd' : Term.deeps ps + 1 ≤ n := hd
    refine dss_cons (ds_if (dt_cmp op_eq (de_ixc (de_var 0 rfl ⟨_, _, .inl rfl, rfl, de_str (rd_eqS ⟨_, rfl, ?_⟩)⟩))))
    have e1 : decide (("put" : Str) = "call") = false := decide_eq_false (by decide +kernel)
    rw [e1]
    rw [bareT_put] at q
    refine iteF (dss_nil (dss_cons (ds_ret (de_tup (da_cons (de_str (da_cons (de_ixc (de_var 0 rfl ⟨_, _, .inl rfl, rfl, ?_⟩)))))))))
    refine da_cons (de_bl (da_cons (de_ixc (de_var 0 rfl ⟨_, _, .inl rfl, rfl, ?_⟩))))
    refine da_cons (de_tupleOf T.z_tuple (de_dl (dl_lc 1 (blkOk_by (N := nBare) (sc := defScope sBare) (by decide +kernel)) scBare.nd ?_)))
    refine di_tup (de_ixc (de_var 0 rfl ⟨_, _, .inl rfl, rfl, _, rfl, ?_⟩))
    refine LcAsk.res (encTs (ps.map bareT)) (by rw [encTs_len]; exact Nat.le_trans ok.2.1 (by decide)) (by rw [encTs_len, encTs_len, List.length_map]) (fun j g e s H0 Cl cl fp => ?_) ⟨_, .inl rfl, da_nil ⟨le1 rfl, q⟩⟩
    rw [encTs_get] at e
    obtain ⟨p, hp, rfl⟩ := Option.map_eq_some_iff.mp e
    have mp := List.mem_of_getElem? hp
    have hpd : p.deep ≤ Term.deeps ps := Term.deep_mem mp
    refine de_call (ih (n - 1) (by omega)) hr (by omega) (da_cons (de_var 1 rfl (da_nil ⟨p, Term.oks_mem ok.2.2 p mp, by omega, rfl, ?_⟩)))
    rw [encTs_get, List.getElem?_map, hp]
    rfl
theorem has_bare (T : Tx K mg) : ∀ n, Has P w K mg base "_law_bare" (n + 1) ["_law_term_here"] (spP (F_bare n))
  | 0 => ok_bare T fun m h => by omega
  | n + 1 => ok_bare T fun m h => by
    have e : m = n := by omega
    subst e
    exact has_bare T m
end
end WK

set_option Elab.async false
set_option linter.all false
set_option maxRecDepth 100000
set_option maxHeartbeats 4000000
namespace DL
open PySem PySem.Spec PyProof.Rows L2
section
variable {X : Cx} {δ : List Sl} {Φ : EndsD}
/-- z = own.pop(0) -/
theorem ds_pop0 {d : PyData} {ds : List PyData} (i j : Nat) {y z : Str} {py pz pa pc p0 pos : Pos} {kk} (ho : δ[i]? = some (.ow (d :: ds))) (q : Φ.nx ((δ.set i (.ow ds)).set j (.dt d))) (hN : X.N.Nodup) (hi : X.N[i]? = some y := by rfl) (hj : X.N[j]? = some z := by rfl)
    (hv : Vis X.env.scope y := by first | exact Or.inl rfl | exact Or.inr (Or.inl rfl) | exact Or.inr (Or.inr rfl)) (hdb : (y == ("__debug__" : Str)) = false := by decide) (hcd : (y == ("__classdict__" : Str)) = false := by decide)
    (hx : Loc X.env.scope z := by first | exact Or.inl rfl | exact Or.inr rfl)
    (hbase : attributeBase (.Name y py) "pop" X.env (eval (.Name y py) X.env) = eval (.Name y py) X.env := by rfl)
    (hfew : ((backTo pc (starEach [.Constant (.int 0) kk p0] X.env)).all (fun x => !x.1) && (backToKw pc (keywordEach [] X.env)).all (fun x => x.1.isSome)
      && decide (([.Constant (.int 0) kk p0] : List Expr).length + ([] : List Keyword).length + (if ([] : List Keyword).isEmpty then 0 else 1) < 30)) = true := by rfl)
    (hline : (pa.endLine == pc.line) = true := by rfl) (hs : starEach [.Constant (.int 0) kk p0] X.env = (false, eval (.Constant (.int 0) kk p0) X.env) :: starEach [] X.env := by rfl) (hplain : (backTo pc (starEach [] X.env)).any (·.1) = false := by rfl)
    (hsw : swapsWith (.Call (.Attribute (.Name y py) "pop" pa) [.Constant (.int 0) kk p0] [] pc) (some (.Name z pz)) pos.line X.env = pure false := by rfl) (hf : X.fn z = true ∨ X.env.scope.names.lookup z = some .local := by first | exact .inl rfl | exact .inr rfl) :
    DS X δ (.Assign [.Name z pz] (.Call (.Attribute (.Name y py) "pop" pa) [.Constant (.int 0) kk p0] [] pc) pos) Φ := by
  intro C S σ H D I k
  obtain ⟨v, hv', p, xs, rfl, hS, h0, hn, hp, hd⟩ := I.at_ ho
  refine tS_of (ps_set hN hj hx (pe_bm PySem.F.plainAttrs_list PySem.F.slot_list_pop PySem.F.type_list_pop mt_popAt (pe_var hi hv hdb hcd) (pa_cons pe_int pa_nil hs) hbase hfew hline hs hplain) hsw hf) ?_
  refine ⟨.ref p, hv', .inl ⟨rfl, xs, .inl (.inl hp)⟩, ?_⟩
  cases hd with
  | cons g1 g2 =>
    refine ⟨p, _, 0, 0, _, rfl, rfl, hp, by decide, by decide, ?_, rfl, ?_⟩
    · unfold seqIndex?; simp
    · obtain ⟨I3, s3⟩ := I.mutd ho hv' g2
      exact k.nx S _ _ _ q (I3.setd (g1.mono s3)) s3
end
end DL
namespace WK
open PySem PySem.Spec PyProof.Rows L2 DL TM
section
variable {P : Program} {w : World} {K : PySem.W.Frag} {mg : Str → Option Value} {base : Heap}
/-! ### _law_copy -/
def F_copy : List PyData → (PyData → Prop) → Prop := fun ds Ψ => ∃ T : Turning, T.wood.length ≤ 1000 ∧ T.modes.length ≤ 1000 ∧ ds = [encTurning T] ∧ Ψ (encTurning T)
abbrev sCopy : Stmt := topS 43
abbrev nCopy : List Str := ["_law_turning_here", "_law_wood_here", "_law_kind", "_law_rows_here", "_law_rules"]
theorem scCopy : FnScope nCopy ["_law_turning_here"] (defScope sCopy) := ⟨rfl, rfl, rfl, by decide +kernel, rfl, by decide +kernel, by decide +kernel⟩
theorem LcAsk2.resT {X : Cx} {δ : List Sl} {elt : Expr} {scope : Scope} {j l : Nat} {Ψ : List PyData → Prop} {its zs : List PyData} (hl : its.length ≤ 1000000) (hz : zs.length = its.length) (h : ∀ (i : Nat) d, its[i]? = some d → ∃ d1 d2, d = .tuple [d1, d2] ∧ ∀ s H0 Cl cl fp, DE (blkX X scope s H0 Cl cl fp) (((wipeD δ [j, l]).set j (.dt d1)).set l (.dt d2)) elt fun y => zs[i]? = some y) (q : Ψ zs) :
    LcAsk2 X δ scope j l [] elt Ψ its := by
  refine ⟨hl, fun i acc => acc = zs.take i, by simp, fun i d acc e1 e2 => ?_, fun acc e => by rw [e, ← hz, List.take_length]; exact q⟩
  obtain ⟨d1, d2, rfl, h⟩ := h i d e1
  refine ⟨d1, d2, rfl, fun s H0 Cl cl fp => de_imp (h s H0 Cl cl fp) fun y hy => ?_⟩
  show acc ++ [y] = zs.take (i + 1)
  rw [show acc = zs.take i from e2, List.take_add_one, hy] <;> rfl
theorem has_copy (T : Tx K mg) {lv : Nat} : Has P w K mg base "_law_copy" (lv + 1) ["_law_turning_here"] (spP F_copy) := hasOf T.d_law_copy fun f fd Fn => by
  refine okP Fn scCopy (fun ds Ψ h => by obtain ⟨_, _, _, rfl, _⟩ := h; rfl) fun cdv A outer s H E hr ds Ψ h => ?_
  obtain ⟨t, l1, l2, rfl, q⟩ := h
  refine dss_cons (ds_lc2 1 2 3 (blkOk_by (N := nCopy) (sc := defScope sCopy) (by decide +kernel)) scCopy.nd ?_ (sw_true rfl rfl rfl (by decide +kernel)))
  refine di_list (de_ixc (de_var 0 rfl ⟨_, _, .inl rfl, rfl, _, rfl, ?_⟩))
  refine LcAsk2.resT (zs := t.wood.map encKind) (by rw [List.length_map]; omega) rfl (fun i d e => ?_) ?_
  · have e0 := e
    rw [List.getElem?_map] at e
    obtain ⟨r, hr1, rfl⟩ := Option.map_eq_some_iff.mp e
    refine ⟨.str r.1, encRows r.2, rfl, fun s H0 Cl cl fp => de_tup (da_cons (de_var 2 rfl (da_cons (de_dl (dl_listOf T.z_list (de_var 3 rfl ⟨_, .inl rfl, da_nil ⟨le1 rfl, ?_⟩⟩))))))⟩
    exact e0
  · refine dss_frz 1 rfl (dss_cons (ds_ret (de_tup (da_cons (de_var 1 rfl (da_cons (de_ixc (de_var 0 rfl ⟨_, _, .inl rfl, rfl, ?_⟩))))))))
    refine da_cons (de_dl (dl_lc2 2 4 (blkOk_by (N := nCopy) (sc := defScope sCopy) (by decide +kernel)) scCopy.nd ?_))
    refine di_list (de_ixc (de_var 0 rfl ⟨_, _, .inl rfl, rfl, _, rfl, ?_⟩))
    refine LcAsk2.resT (zs := t.modes.map encMode) (by rw [List.length_map]; omega) rfl (fun i d e => ?_) (da_nil ⟨le1 rfl, q⟩)
    have e0 := e
    rw [List.getElem?_map] at e
    obtain ⟨r, hr1, rfl⟩ := Option.map_eq_some_iff.mp e
    refine ⟨.str r.1, .list (encTs r.2), rfl, fun s H0 Cl cl fp => de_tup (da_cons (de_var 2 rfl (da_cons (de_dl (dl_listOf T.z_list (de_var 4 rfl ⟨_, .inl rfl, da_nil ⟨le1 rfl, ?_⟩⟩))))))⟩
    exact e0
/-! ### _law_calls -/
def encC (c : Nat × Nat) : PyData := .tuple [.int (c.1 : Nat), .int (c.2 : Nat)]
def CallsOk (ks bs : List Str) (cs : List (Nat × Nat)) : Prop := ∀ c ∈ cs, ∃ k, ks[c.1]? = some k ∧ bs[c.2]? = some k
def F_calls : List PyData → (PyData → Prop) → Prop := fun ds Ψ => ∃ (ks bs : List Str) (d2 : PyData), ks.length ≤ 4 ∧ bs.length ≤ 4 ∧ (d2 = .list (bs.map encStr) ∨ d2 = .tuple (bs.map encStr)) ∧ ds = [.list (ks.map encStr), d2] ∧ ∀ cs, CallsOk ks bs cs → cs.length ≤ 16 → Ψ (.list (cs.map encC))
abbrev sCalls : Stmt := topS 39
abbrev nCalls : List Str := ["_law_kinds", "_law_branches", "_law_found", "_law_k", "_law_j"]
theorem scCalls : FnScope nCalls ["_law_kinds", "_law_branches"] (defScope sCalls) := ⟨rfl, rfl, rfl, by decide +kernel, rfl, by decide +kernel, by decide +kernel⟩
theorem has_calls (T : Tx K mg) {lv : Nat} : Has P w K mg base "_law_calls" (lv + 1) ["_law_kinds", "_law_branches"] (spP F_calls) := hasOf T.d_law_calls fun f fd Fn => by
  refine okP Fn scCalls (fun ds Ψ h => by obtain ⟨_, _, _, _, _, _, rfl, _⟩ := h; rfl) fun cdv A outer s H E hr ds Ψ h => ?_
  obtain ⟨ks, bs, d2, l1, l2, hd2, rfl, q⟩ := h
  refine dss_cons (ds_own 2 (dl_lst (da_nil ⟨le1 rfl, ?_⟩)) scCalls.nd)
  refine dss_cons (ds_for 3 (di_range T.z_range (de_len T.z_len (de_var 0 rfl ⟨_, .inl rfl, _, rfl, by rw [List.length_map]; omega, ?_⟩))) scCalls.nd PassesOwn.never)
  refine ⟨fun i δ' => ∃ cs x y, CallsOk ks bs cs ∧ cs.length ≤ i * bs.length ∧ δ' = [.dt (.list (ks.map encStr)), .dt d2, .ow (cs.map encC), x, y], ⟨[], _, _, fun c h => by simp at h, Nat.zero_le _, rfl⟩, fun i d δ' e hP => ?_, fun δ' hP => ?_⟩
  · obtain ⟨cs0, x, y, hc0, hl0, rfl⟩ := hP
    obtain ⟨hi, rfl⟩ := rngD_get e
    rw [List.length_map] at hi
    refine dss_cons (ds_for 4 (di_range T.z_range (de_len T.z_len (de_var 1 rfl ⟨bs.map encStr, hd2, _, rfl, by rw [List.length_map]; omega, ?_⟩))) scCalls.nd PassesOwn.never)
    refine ⟨fun j δ' => ∃ cs y, CallsOk ks bs cs ∧ cs.length ≤ i * bs.length + j ∧ δ' = [.dt (.list (ks.map encStr)), .dt d2, .ow (cs.map encC), .dt (.int ((i : Nat) : Int)), y], ⟨cs0, _, hc0, hl0, rfl⟩, fun j d δ' e hP => ?_, fun δ' hP => ?_⟩
    · obtain ⟨cs, y, hc, hl, rfl⟩ := hP
      obtain ⟨hj, rfl⟩ := rngD_get e
      rw [List.length_map] at hj
      have hk : ks[i]? = some ks[i] := List.getElem?_eq_getElem hi
      have hb : bs[j]? = some bs[j] := List.getElem?_eq_getElem hj
      have hmul : i * bs.length ≤ 3 * 4 := Nat.mul_le_mul (by omega) l2
      refine dss_cons (ds_if (dt_cmp op_eq (de_ix (de_var 0 rfl (de_var 3 rfl ⟨_, _, encStr ks[i], .inl rfl, rfl, atI_c (by rw [List.getElem?_map, hk]; rfl), ?_⟩)))))
      refine de_ix (de_var 1 rfl (de_var 4 rfl ⟨bs.map encStr, _, encStr bs[j], hd2, rfl, atI_c (by rw [List.getElem?_map, hb]; rfl), rd_eqS ⟨_, rfl, ?_⟩⟩))
      refine ite2 (fun c => ?_) (fun c => ?_)
      · refine dss_cons (ds_append 2 rfl (by rw [List.length_map]; omega) (de_tup (da_cons (de_var 3 rfl (da_cons (de_var 4 rfl (da_nil ⟨le1 rfl, ?_⟩)))))))
        have ec : ks[i] = bs[j] := of_decide_eq_true c
        refine dss_nil (dss_nil ⟨cs ++ [(i, j)], .dt (.int ((j : Nat) : Int)), fun c hcm => ?_, by rw [List.length_append, List.length_singleton]; omega, by rw [List.map_append]; rfl⟩)
        rcases List.mem_append.mp hcm with h | h
        · exact hc c h
        · rw [List.mem_singleton] at h
          subst h
          exact ⟨ks[i], hk, by rw [ec]; exact hb⟩
      · exact dss_nil (dss_nil ⟨cs, .dt (.int ((j : Nat) : Int)), hc, by omega, rfl⟩)
    · obtain ⟨cs, y, hc, hl, rfl⟩ := hP
      rw [rngD_len, List.length_map] at hl
      exact dss_nil ⟨cs, .dt (.int ((i : Nat) : Int)), y, hc, by rw [Nat.add_mul, Nat.one_mul]; exact hl, rfl⟩
  · obtain ⟨cs, x, y, hc, hl, rfl⟩ := hP
    rw [rngD_len, List.length_map] at hl
    have hmul : ks.length * bs.length ≤ 4 * 4 := Nat.mul_le_mul l1 l2
    exact dss_frz 2 rfl (dss_cons (ds_ret (de_var 2 rfl (q cs hc (by omega)))))
end
end WK

set_option Elab.async false
set_option linter.all false
set_option maxRecDepth 100000
set_option maxHeartbeats 4000000
namespace TM
open PySem
theorem shaped_Ns (p : List Nat) : SeqAt.shaped (.list (p.map encNat)) = true := by
  have h := (shaped_iff _).mp (shaped_P p)
  refine (shaped_iff _).mpr ⟨?_, ?_⟩
  · have h1 := h.1
    simpa only [encP, PyData.canLay0] using h1
  · have h1 := h.2
    simpa only [encP, PyData.depth] using h1
theorem Tree.label_ok : ∀ {P : List Nat} {t : Tree} {L : Label}, t.ok → labelAt t P = some L → PyData.strOk L.1 = true
  | [], .node n m bs, L, h, e => by
    rw [labelAt] at e
    cases e
    exact h.1
  | k :: r, .node n m bs, L, h, e => by
    obtain ⟨b, h1, h2⟩ := labelAt_node.mp e
    exact Tree.label_ok (Tree.oks_mem h.2.2 b (List.mem_of_getElem? h1)) h2
mutual
theorem inst_ok {mark : Int} {fs : List (Nat → Tree)} : ∀ t : Term, t.ok → t.calls (fun m b => ∃ f, fs[b]? = some f ∧ (f m).ok) → (inst mark fs t).ok
  | .call m b, _, h => by
    obtain ⟨f, h1, h2⟩ := h
    rw [inst, h1]
    exact h2
  | .put n k a ps, h, hc => by
    rw [inst]
    refine ⟨h.1, by rw [insts_map, List.length_map]; exact h.2.1, insts_ok ps h.2.2 hc⟩
theorem insts_ok {mark : Int} {fs : List (Nat → Tree)} : ∀ t : List Term, Term.oks t → Term.callss (fun m b => ∃ f, fs[b]? = some f ∧ (f m).ok) t → Tree.oks (insts mark fs t)
  | [], _, _ => trivial
  | t :: ts, h, hc => ⟨inst_ok t h.1 hc.1, insts_ok ts h.2 hc.2⟩
end
mutual
theorem out_ok {T : Turning} (W : WF T) : ∀ (t : Tree) (m : Nat) (md : Mode), T.modes[m]? = some md → ofKind T.wood t md.1 → (out T t m).ok
  | .node n mark bs, m, md, hm, hk => by
    obtain ⟨i, ks, tm, h1, h2, h3, h4, h5, h6⟩ := ofKind_row W hm hk
    rw [out_rule h3]
    refine inst_ok tm h4.ok (Term.calls_imp (fun m' b hf => ?_) tm h4.calls)
    obtain ⟨md', f1, f2⟩ := hf
    obtain ⟨br, g1, g2⟩ := ofKinds_get h6 h5 f2
    exact ⟨_, outs_get g1, out_oks W bs br (List.mem_of_getElem? g1) m' md' f1 g2⟩
theorem out_oks {T : Turning} (W : WF T) : ∀ (bs : List Tree), ∀ b ∈ bs, ∀ (m : Nat) (md : Mode), T.modes[m]? = some md → ofKind T.wood b md.1 → (out T b m).ok
  | [], b, h => by cases h
  | c :: bs, b, h => by
    rcases List.mem_cons.mp h with e | h
    · rw [e]; exact out_ok W c
    · exact out_oks W bs b h
end
end TM
namespace WK
open PySem PySem.Spec PyProof.Rows L2 DL TM
section
variable {P : Program} {w : World} {K : PySem.W.Frag} {mg : Str → Option Value} {base : Heap}
/-! ### _law_label -/
def F_label : List PyData → (PyData → Prop) → Prop := fun ds Ψ => ∃ (T : Turning) (m : Nat) (md : Mode) (t : TM.Tree) (p : List Nat) (L : Label), WF T ∧ T.modes[m]? = some md ∧ ofKind T.wood t md.1 ∧ labelAt (out T t m) p = some L ∧ ds = [encTurning T, .int ((m : Nat) : Int), encR t, encP p] ∧ Ψ (encL L)
abbrev sLabel : Stmt := topS 54
abbrev pLabel : List Str := ["_law_turning_here", "_law_mode", "_law_tree_here", "_law_place"]
abbrev nLabel : List Str := ["_law_turning_here", "_law_mode", "_law_tree_here", "_law_place", "_law_here", "_law_rest", "_law_step"]
theorem scLabel : FnScope nLabel pLabel (defScope sLabel) := ⟨rfl, rfl, rfl, by decide +kernel, rfl, by decide +kernel, by decide +kernel⟩
theorem e_cc : decide (("call" : Str) = "call") = true := decide_eq_true rfl
theorem e_pc : decide (("put" : Str) = "call") = false := decide_eq_false (by decide +kernel)
theorem has_label (T : Tx K mg) : Has P w K mg base "_law_label" 3 pLabel (spP F_label) := hasOf T.d_law_label fun f fd Fn => by
  refine okP Fn scLabel (fun ds Ψ h => by obtain ⟨_, _, _, _, _, _, _, _, _, _, rfl, _⟩ := h; rfl) fun cdv A outer s H E hr ds Ψ h => ?_
  obtain ⟨t, m, md, tr, p, L, W, hm, hk, hL, rfl, q⟩ := h
  obtain ⟨nm, mk, bs⟩ := tr
  obtain ⟨i, ks, tm, h1, h2, h3, h4, h5, h6⟩ := ofKind_row W hm hk
  rw [out_rule h3] at hL
  refine dss_cons (ds_set 4 (de_call (has_lruleOf T (lv := 0)) hr (by omega) (da_cons (de_var 0 rfl (da_cons (de_var 1 rfl (da_cons (de_ixc (de_var 2 rfl ⟨_, _, .inl rfl, rfl, da_nil ⟨t, m, nm, tm, W, rfl, h3, ?_⟩⟩)))))))) scLabel.nd)
  refine dss_cons (ds_own 5 (dl_listOf T.z_list (de_var 3 rfl ⟨_, .inr rfl, ?_⟩)) scLabel.nd)
  refine dss_cons (ds_while (fun k δ' => ∃ (nm : Str) (mk : Int) (bs : List TM.Tree) (ks : List Str) (here : Term) (rest : List Nat) (mv : Sl) (st : Sl), k = (TM.Tree.node nm mk bs).deep + rest.length ∧ here.ok ∧ here.calls (fits t.modes ks) ∧ ks.length = bs.length ∧ ofKinds t.wood bs ks ∧
      labelAt (inst mk (outs t bs) here) rest = some L ∧ δ' = [.dt (encTurning t), mv, .dt (encR (.node nm mk bs)), .dt (encP p), .dt (encT here), .ow (rest.map encNat), st]) _ ⟨nm, mk, bs, ks, tm, p, _, _, rfl, h4.ok, h4.calls, h5, h6, hL, rfl⟩ ?_ PassesOwn.never)
  clear hL h1 h2 h3 h4 h5 h6 hk
  intro k δ' hP
  obtain ⟨nm, mk, bs, ks, here, rest, mv, st, hk, ok, hc, hl, hb, hL, rfl⟩ := hP
  cases here with
  | call m' b =>
    refine dt_of (dw_or (dt_cmp op_eq (de_ixc (de_var 4 rfl ⟨_, _, .inl rfl, rfl, de_str (rd_eqS ⟨_, rfl, ?_⟩)⟩))))
    rw [e_cc]
    refine iteT ?_
    refine iteT (dss_cons (ds_if (dt_cmp op_eq (de_ixc (de_var 4 rfl ⟨_, _, .inl rfl, rfl, de_str (rd_eqS ⟨_, rfl, ?_⟩)⟩)))))
    rw [e_cc]
    obtain ⟨md', f1, f2⟩ := hc
    obtain ⟨br, g1, g2⟩ := ofKinds_get hb hl f2
    have hbr : br.deep ≤ TM.Tree.deeps bs := TM.Tree.deep_mem (List.mem_of_getElem? g1)
    have e : inst mk (outs t bs) (.call m' b) = out t br m' := by rw [inst, outs_get g1]
    rw [e] at hL
    obtain ⟨nm2, mk2, bs2⟩ := br
    obtain ⟨i, ks2, tm2, h1, h2, h3, h4, h5, h6⟩ := ofKind_row W f1 g2
    rw [out_rule h3] at hL
    refine iteT (dss_cons (ds_set 2 (de_ix (de_ixc (de_var 2 rfl ⟨_, _, .inl rfl, rfl, de_ixc (de_var 4 rfl ⟨_, _, .inl rfl, rfl, _, _, encR (.node nm2 mk2 bs2), .inr rfl, rfl, atI_c (by rw [encRs_get, g1]; rfl), ?_⟩)⟩))) scLabel.nd))
    refine dss_cons (ds_set 4 (de_call (has_lruleOf T (lv := 0)) hr (by omega) (da_cons (de_var 0 rfl (da_cons (de_ixc (de_var 4 rfl ⟨_, _, .inl rfl, rfl, ?_⟩)))))) scLabel.nd)
    refine da_cons (de_ixc (de_var 2 rfl ⟨_, _, .inl rfl, rfl, da_nil ⟨t, m', nm2, tm2, W, rfl, h3, ?_⟩⟩))
    refine dss_nil (dss_nil ⟨_, ?_, nm2, mk2, bs2, ks2, tm2, rest, _, _, rfl, h4.ok, h4.calls, h5, h6, hL, rfl⟩)
    rw [hk]
    show (TM.Tree.node nm2 mk2 bs2).deep + rest.length < TM.Tree.deeps bs + 1 + rest.length
    omega
  | put n1 kk a ps =>
    refine dt_of (dw_or (dt_cmp op_eq (de_ixc (de_var 4 rfl ⟨_, _, .inl rfl, rfl, de_str (rd_eqS ⟨_, rfl, ?_⟩)⟩))))
    rw [e_pc]
    refine iteF (dw_or1 (dt_neO 5 rfl hr.units (shaped_Ns _) ?_))
    cases rest with
    | nil =>
      rw [inst, labelAt] at hL
      cases hL
      refine iteF (dss_cons (ds_ret (de_tup (da_cons (de_ixc (de_var 4 rfl ⟨_, _, .inl rfl, rfl, ?_⟩))))))
      refine da_cons (de_op op_add (de_ixc (de_var 4 rfl ⟨_, _, .inl rfl, rfl, de_op op_mul (de_ixc (de_var 2 rfl ⟨_, _, .inl rfl, rfl, de_intOf T.z_int (de_ixc (de_var 4 rfl ⟨_, _, .inl rfl, rfl, _, rfl, ?_⟩))⟩))⟩)))
      refine rd_mul (.inr (by cases kk <;> decide)) (rd_add ?_)
      refine da_cons (de_len T.z_len (de_ixc (de_var 4 rfl ⟨_, _, .inl rfl, rfl, _, .inr rfl, da_nil ⟨le1 rfl, ?_⟩⟩)))
      rw [encTs_len]
      rw [insts_map, List.length_map] at q
      exact q
    | cons c r =>
      rw [inst] at hL
      obtain ⟨b, g1, g2⟩ := labelAt_node.mp hL
      rw [insts_map, List.getElem?_map] at g1
      obtain ⟨p1, hp, rfl⟩ := Option.map_eq_some_iff.mp g1
      have hlt : c < ps.length := (List.getElem?_eq_some_iff.mp hp).1
      have mp := List.mem_of_getElem? hp
      refine iteT (dss_cons (ds_if (dt_cmp op_eq (de_ixc (de_var 4 rfl ⟨_, _, .inl rfl, rfl, de_str (rd_eqS ⟨_, rfl, ?_⟩)⟩)))))
      rw [e_pc]
      refine iteF (dss_cons (ds_pop0 5 6 rfl ?_ scLabel.nd))
      refine dss_cons (ds_if (dt_not (dt_chain op_le op_lt (de_int (de_var 6 rfl (rd_le ⟨_, rfl, ?_⟩))))))
      rw [decide_eq_true (show (0 : Int) ≤ ((c : Nat) : Int) by omega)]
      refine iteT (de_len T.z_len (de_ixc (de_var 4 rfl ⟨_, _, .inl rfl, rfl, _, .inr rfl, rd_lt ⟨_, rfl, ?_⟩⟩)))
      rw [decide_eq_true (show ((c : Nat) : Int) < (((encTs ps).length : Nat) : Int) by rw [encTs_len]; omega)]
      refine iteF (dss_nil (dss_cons (ds_set 4 (de_ix (de_ixc (de_var 4 rfl ⟨_, _, .inl rfl, rfl, de_var 6 rfl ⟨_, _, encT p1, .inr rfl, rfl, atI_c (by rw [encTs_get, hp]; rfl), ?_⟩⟩))) scLabel.nd)))
      refine dss_nil (dss_nil ⟨_, ?_, nm, mk, bs, ks, p1, r, _, _, rfl, Term.oks_mem ok.2.2 p1 mp, Term.callss_mem hc p1 mp, hl, hb, g2, rfl⟩)
      rw [hk, List.length_cons]
      omega
/-! ### _law_part_of -/
def F_partOf (n : Nat) : List PyData → (PyData → Prop) → Prop := fun ds Ψ => ∃ (T : Turning) (m : Nat) (md : Mode) (t1 t2 : TM.Tree) (p : List Nat) (L1 L2 : Label), WF T ∧ T.modes[m]? = some md ∧ ofKind T.wood t1 md.1 ∧ ofKind T.wood t2 md.1 ∧ t1.ok ∧ t2.ok ∧ t1.deep ≤ n ∧ t2.deep ≤ n ∧
  labelAt (out T t1 m) p = some L1 ∧ labelAt (out T t2 m) p = some L2 ∧ L1 ≠ L2 ∧ ds = [encTurning T, .int ((m : Nat) : Int), .tuple [encR t1, encR t2], encP p] ∧ Ψ (.bool true)
abbrev sPartOf : Stmt := topS 55
abbrev pPartOf : List Str := ["_law_turning_here", "_law_mode", "_law_found", "_law_place"]
abbrev nPartOf : List Str := ["_law_turning_here", "_law_mode", "_law_found", "_law_place", "_law_kind", "_law_tree_here", "_law_one", "_law_other"]
theorem scPartOf : FnScope nPartOf pPartOf (defScope sPartOf) := ⟨rfl, rfl, rfl, by decide +kernel, rfl, by decide +kernel, by decide +kernel⟩
theorem has_partOf (T : Tx K mg) (n : Nat) : Has P w K mg base "_law_part_of" (n + 4) pPartOf (spP (F_partOf n)) := hasOf T.d_law_part_of fun f fd Fn => by
  refine okP Fn scPartOf (fun ds Ψ h => by obtain ⟨_, _, _, _, _, _, _, _, _, _, _, _, _, _, _, _, _, _, _, rfl, _⟩ := h; rfl) fun cdv A outer s H E hr ds Ψ h => ?_
  obtain ⟨t, m, md, t1, t2, p, L1, L2, W, hm, k1, k2, o1, o2, d1, d2, g1, g2, hne, rfl, q⟩ := h
  have mm := List.mem_of_getElem? hm
  refine dss_cons (ds_set 4 (de_ixc (de_ix (de_ixc (de_var 0 rfl ⟨_, _, .inl rfl, rfl, de_var 1 rfl ⟨_, _, encMode md, .inl rfl, rfl, atI_c (by rw [List.getElem?_map, hm]; rfl), _, _, .inl rfl, rfl, ?_⟩⟩)))) scPartOf.nd)
  refine dss_cons (ds_if (dt_of (dw_or (dt_not (dt_val (de_isi T.z_isinstance T.z_tuple bt_tuple (de_var 2 rfl ⟨true, kb_tup, true, rfl, ?_⟩)))))))
  refine iteF (dw_or1 (dt_cmp op_ne (de_len T.z_len (de_var 2 rfl ⟨_, .inr rfl, de_int (rd_neI ⟨_, rfl, ?_⟩)⟩))))
  refine iteF (dss_nil (dss_cons (ds_for 5 (di_tup (de_var 2 rfl ⟨_, rfl, ?_⟩)) scPartOf.nd PassesOwn.never)))
  refine ⟨fun i δ' => ∃ x, δ' = [.dt (encTurning t), .dt (.int ((m : Nat) : Int)), .dt (.tuple [encR t1, encR t2]), .dt (encP p), .dt (.str md.1), x, .no, .no], ⟨_, rfl⟩, fun i d δ' e hP => ?_, fun δ' hP => ?_⟩
  · obtain ⟨x, rfl⟩ := hP
    have key : ∃ tr : TM.Tree, d = encR tr ∧ ofKind t.wood tr md.1 ∧ tr.ok ∧ tr.deep ≤ n := by
      have hd := List.mem_of_getElem? e
      rcases List.mem_cons.mp hd with h | h
      · exact ⟨t1, h, k1, o1, d1⟩
      · rw [List.mem_singleton] at h
        exact ⟨t2, h, k2, o2, d2⟩
    obtain ⟨tr, rfl, h1, h2, h3⟩ := key
    refine dss_cons (ds_if (dt_not (dt_val (de_call (has_isTree T n) hr (by omega) (da_cons (de_ixc (de_var 0 rfl ⟨_, _, .inl rfl, rfl, ?_⟩)))))))
    refine da_cons (de_var 4 rfl (da_cons (de_var 5 rfl (da_nil ⟨t.wood, md.1, tr, W.wood, W.kind md mm, h1, h2, h3, rfl, true, rfl, ?_⟩))))
    exact iteF (dss_nil (dss_nil ⟨_, rfl⟩))
  · obtain ⟨x, rfl⟩ := hP
    refine dss_cons (ds_set 6 (de_call (has_label T) hr (by omega) (da_cons (de_var 0 rfl (da_cons (de_var 1 rfl (da_cons (de_ixc (de_var 2 rfl ⟨_, _, .inl rfl, rfl, ?_⟩)))))))) scPartOf.nd)
    refine da_cons (de_var 3 rfl (da_nil ⟨t, m, md, t1, p, L1, W, hm, k1, g1, rfl, ?_⟩))
    refine dss_cons (ds_set 7 (de_call (has_label T) hr (by omega) (da_cons (de_var 0 rfl (da_cons (de_var 1 rfl (da_cons (de_ixc (de_var 2 rfl ⟨_, _, .inl rfl, rfl, ?_⟩)))))))) scPartOf.nd)
    refine da_cons (de_var 3 rfl (da_nil ⟨t, m, md, t2, p, L2, W, hm, k2, g2, rfl, ?_⟩))
    refine dss_cons (ds_ret (de_and (de_cmp op_notN (de_var 6 rfl (de_non (rd_notN ⟨true, rfl, ?_⟩))))))
    refine iteT (de_and (de_cmp op_notN (de_var 7 rfl (de_non (rd_notN ⟨true, rfl, ?_⟩)))))
    refine iteT (de_one (de_cmp (op_neD hr.units) (de_var 6 rfl (de_var 7 rfl (rd_neD (shaped_L (TM.Tree.label_ok (out_ok W t1 m md hm k1) g1)) (shaped_L (TM.Tree.label_ok (out_ok W t2 m md hm k2) g2)) ?_)))))
    have e : PyData.eqv (encL L1) (encL L2) = false := Bool.eq_false_iff.mpr fun z => hne ((eqv_encL _ _).mp z)
    rw [e]
    exact q
end
end WK

set_option Elab.async false
set_option linter.all false
set_option maxRecDepth 100000
set_option maxHeartbeats 4000000
namespace DL
open PySem PySem.Spec PyProof.Rows L2
theorem canLay_ints : ∀ p : List Int, PyData.canLayAll0 (p.map PyData.int) = true ∧ PyData.depthAll (p.map PyData.int) = 0
  | [] => by simp [PyData.canLayAll0, PyData.depthAll]
  | a :: p => by
    obtain ⟨h1, h2⟩ := canLay_ints p
    refine ⟨?_, ?_⟩
    · simp only [List.map_cons, PyData.canLayAll0, PyData.canLay0, h1, Bool.and_true]
    · simp only [List.map_cons, PyData.depthAll, PyData.depth, h2]; omega
theorem shaped_ints (p : List Int) : SeqAt.shaped (.list (p.map PyData.int)) = true := by
  obtain ⟨h1, h2⟩ := canLay_ints p
  refine (TM.shaped_iff _).mpr ⟨?_, ?_⟩
  · rw [PyData.canLay0]; exact h1
  · rw [PyData.depth, h2]; omega
end DL
namespace WK
open PySem PySem.Spec PyProof.Rows L2 DL TM
section
variable {P : Program} {w : World} {K : PySem.W.Frag} {mg : Str → Option Value} {base : Heap}
/-! ### _law_draw -/
def F_draw : List PyData → (PyData → Prop) → Prop := fun ds Ψ => ∃ m : Int, ds = [.int m] ∧ 0 < m ∧ ∀ z : Int, 0 ≤ z → z < m → Ψ (.int z)
abbrev sDraw : Stmt := topS 32
abbrev nDraw : List Str := ["_law_deck", "_law_most"]
theorem scDraw : FnScope nDraw nDraw (defScope sDraw) := ⟨rfl, rfl, rfl, by decide +kernel, rfl, by decide +kernel, by decide +kernel⟩
theorem has_draw (T : Tx K mg) {lv : Nat} : Has P w K mg base "_law_draw" (lv + 1) nDraw (spK F_draw) := hasOf T.d_law_draw fun f fd Fn => by
  refine okK Fn scDraw (fun ds Ψ h => by obtain ⟨_, rfl, _⟩ := h; rfl) fun cdv A outer s H E hr ds Ψ h => ?_
  obtain ⟨m, rfl, hm, q⟩ := h
  intro C S σ H D I k
  obtain ⟨v0, hv0, a, ns, rfl, hS, hM, hH⟩ := I.at_ (i := 0) (s := .dk) rfl
  obtain ⟨v1, hv1, y1, rfl, hy1⟩ := I.at_ (i := 1) (s := .dt (.int m)) rfl
  refine tSs_of (pss_cons (ps_if (pt_cmpR (op_eqD hr.units) (pe_var (i := 0) rfl (Or.inl rfl) (by decide) (by decide)) (pe_lst pa_nil) (nomark _)) pss_tSs pss_tSs) pss_tSs) ?_
  refine ⟨.ref a, hv0, Nat.zero_le _, fun p hp2 => ?_⟩
  have hd2 : Dd (upd H p (.lst [])) (.ref a) (.list (ns.map PyData.int)) := .lst (same_upd hp2 _ _ hH) (Dds.ints ns)
  have hd3 : Dd (upd H p (.lst [])) (.ref p) (.list []) := .lst upd_same .nil
  have I1 := I.same (same_upd (o := .lst []) hp2)
  refine ⟨.list (ns.map PyData.int), .list [], hd2.dp, hd3.dp, shaped_ints ns, by decide, ns.isEmpty, by cases ns <;> rfl, ?_⟩
  cases ns with
  | nil =>
    show tSs _ _ _ _ _
    exact tSs_of (pss_cons (ps_ret pe_int) pss_tSs) (k.rt _ _ (.int 0) (q 0 (by decide) hm) I1.rtf (.int 0))
  | cons n0 ns0 =>
    show tSs _ _ _ _ _
    refine tSs_of pss_nil ?_
    show tSs _ _ _ _ _
    refine tSs_of (pss_cons (ps_ret (pe_op op_mod (pe_bm0 PySem.F.plainAttrs_list PySem.F.slot_list_pop PySem.F.type_list_pop mt_pop (pe_var (i := 0) rfl (Or.inl rfl) (by decide) (by decide))) (pe_var (i := 1) rfl (Or.inl rfl) (by decide) (by decide)))) pss_tSs) ?_
    have hH1 : upd H p (.lst []) a = some (.lst ((n0 :: ns0).map V.int)) := same_upd hp2 _ _ hH
    refine ⟨.ref a, hv0, .inl ⟨rfl, _, .inl (.inl hH1)⟩, ?_⟩
    generalize hl : (n0 :: ns0) = l at hH1
    have hne : l ≠ [] := by rw [← hl]; simp
    refine ⟨a, l.map V.int, .int (l.getLast hne), rfl, rfl, hH1, ?_, ?_⟩
    · rw [List.length_map, List.getElem?_map, ← List.getLast?_eq_getElem?, List.getLast?_eq_some_getLast hne]
      rfl
    have I2 : Sm _ C S σ (upd (upd H p (.lst [])) a (.lst (l.map V.int).dropLast)) _ := (I1.deck (i := 0) rfl hv0 (ms := l.dropLast) (fun b o hb e => by rw [upd_ne hb]; exact e) (by rw [upd_same, List.map_dropLast])).1
    rw [hy1.int_inv] at hv1
    refine ⟨.int m, hv1, _, _, rfl, rfl, hm, ?_⟩
    exact k.rt _ _ (.int (l.getLast hne % m)) (q _ (Int.emod_nonneg _ (by omega)) (Int.emod_lt_of_pos _ hm)) I2.rtf (.int _)
end
end WK

set_option Elab.async false
set_option linter.all false
set_option maxRecDepth 100000
set_option maxHeartbeats 4000000
namespace TM
open PySem
/-! names -/
def letterAt (n : Nat) : Nat := 97 + n % 26
def stepAt (c k j : Nat) : Nat := c / 1664 % 3 * j + if j = c / 8 % (1 + c % 8) then k else 0
def nameOf (c k : Nat) : Str := if c / 1664 % 3 = 2 then ⟨(List.replicate (1 + k % 8) (letterAt (c / 64 % 26 + k / 8))).toArray⟩ else ⟨((List.range (1 + c % 8)).map fun j => letterAt (c / 64 % 26 + stepAt c k j)).toArray⟩
theorem letterAt_lt (n : Nat) : letterAt n < 0x110000 := by unfold letterAt; omega
theorem nameOf_ok (c k : Nat) : PyData.strOk (nameOf c k) = true := by
  unfold nameOf PyData.strOk
  split
  · show (List.replicate _ _).toArray.all _ = true
    rw [List.all_toArray, List.all_eq_true]
    intro x hx
    rw [List.mem_replicate] at hx
    rw [hx.2]
    exact decide_eq_true (letterAt_lt _)
  · show (List.map _ _).toArray.all _ = true
    rw [List.all_toArray, List.all_eq_true]
    intro x hx
    obtain ⟨j, _, rfl⟩ := List.mem_map.mp hx
    exact decide_eq_true (letterAt_lt _)
theorem nameOf_inj {c k k' : Nat} (h : k ≤ 15) (h' : k' ≤ 15) (e : nameOf c k = nameOf c k') : k = k' := by
  unfold nameOf at e
  by_cases hc : c / 1664 % 3 = 2
  · rw [if_pos hc, if_pos hc] at e
    have e1 := congrArg (fun s : Str => s.cps.toList) e
    simp only at e1
    have hl := congrArg List.length e1
    rw [List.length_replicate, List.length_replicate] at hl
    have h0 := congrArg (fun l => l[0]?) e1
    rw [List.getElem?_replicate, List.getElem?_replicate, if_pos (by omega), if_pos (by omega)] at h0
    have h1 := Option.some.inj h0
    unfold letterAt at h1
    omega
  · rw [if_neg hc, if_neg hc] at e
    have e1 := congrArg (fun s : Str => s.cps.toList) e
    simp only at e1
    have ht : c / 8 % (1 + c % 8) < 1 + c % 8 := Nat.mod_lt _ (by omega)
    have h0 := congrArg (fun l => l[c / 8 % (1 + c % 8)]?) e1
    rw [List.getElem?_map, List.getElem?_map, List.getElem?_range ht] at h0
    have h1 := Option.some.inj h0
    unfold letterAt stepAt at h1
    dsimp only at h1
    rw [if_pos rfl, if_pos rfl] at h1
    omega
theorem nameOf_len (c k : Nat) : (nameOf c k).length ≤ 8 := by
  unfold nameOf
  split
  · show (List.replicate _ _).toArray.size ≤ 8
    rw [List.size_toArray, List.length_replicate]; omega
  · show (List.map _ _).toArray.size ≤ 8
    rw [List.size_toArray, List.length_map, List.length_range]; omega
theorem letters_at (n : Nat) : L2.atI (Str.ofString "abcdefghijklmnopqrstuvwxyz").cps.toList (((n % 26 : Nat)) : Int) = some (letterAt n) := by
  have e : (Str.ofString "abcdefghijklmnopqrstuvwxyz").cps.toList = (List.range 26).map (97 + ·) := by decide +kernel
  rw [e]
  have hn : n % 26 < 26 := Nat.mod_lt _ (by decide)
  refine DL.atI_c ?_
  rw [List.getElem?_map, List.getElem?_range hn]
  rfl
theorem mul_one {a n : Nat} (h1 : 1 ≤ n) (h2 : n ≤ 8) : Txt.mul ⟨#[a]⟩ ((n : Nat) : Int) = ⟨(List.replicate n a).toArray⟩ := by
  have key : n = 1 ∨ n = 2 ∨ n = 3 ∨ n = 4 ∨ n = 5 ∨ n = 6 ∨ n = 7 ∨ n = 8 := by omega
  rcases key with h | h | h | h | h | h | h | h <;> subst h <;> rfl
end TM
namespace WK
open PySem PySem.Spec PyProof.Rows L2 DL TM
section
variable {P : Program} {w : World} {K : PySem.W.Frag} {mg : Str → Option Value} {base : Heap}
/-! ### _law_mark -/
def F_mark : List PyData → (PyData → Prop) → Prop := fun ds Ψ => ds = [] ∧ ∀ z : Int, Ψ (.int z)
abbrev sMark : Stmt := topS 33
abbrev nMark : List Str := ["_law_deck", "_law_number"]
theorem scMark : FnScope nMark ["_law_deck"] (defScope sMark) := ⟨rfl, rfl, rfl, by decide +kernel, rfl, by decide +kernel, by decide +kernel⟩
theorem cpow {n : Int} (h0 : 0 ≤ n) (h : n ≤ 59) : CPow 10 n := ⟨h0, by omega, by decide⟩
theorem pos59 : (0 : Int) < 10 ^ (59 : Int).toNat := Int.pow_pos (by decide)
theorem has_mark (T : Tx K mg) {lv : Nat} : Has P w K mg base "_law_mark" (lv + 2) ["_law_deck"] (spK F_mark) := hasOf T.d_law_mark fun f fd Fn => by
  refine okK Fn scMark (fun ds Ψ h => by obtain ⟨rfl, _⟩ := h; rfl) fun cdv A outer s H E hr ds Ψ h => ?_
  obtain ⟨rfl, q⟩ := h
  refine dss_cons (ds_set 1 (de_callK 0 (has_draw T (lv := lv)) hr (Nat.le_refl _) rfl (da_cons (de_op op_pow (de_int (de_int (rd_pow (cpow (by decide) (by decide)) (da_nil ⟨_, rfl, pos59, fun z _ _ => ?_⟩))))))) scMark.nd)
  refine dss_cons (ds_if (dt_cmp op_eq (de_op op_mod (de_var 1 rfl (de_int (rd_mod (by decide) (de_int (rd_eqI ⟨_, rfl, ?_⟩))))))))
  refine ite2 (fun c => ?_) (fun c => ?_)
  · refine dss_cons (ds_ret (de_op op_sub (de_op op_mod (de_op op_fdiv (de_var 1 rfl (de_int (rd_fdiv ⟨by decide, by decide⟩ ?_)))))))
    refine de_op op_add (de_op op_mul (de_int (de_op op_pow (de_int (de_int (rd_pow (cpow (by decide) (by decide)) (rd_mul (.inl ⟨by decide, by decide⟩) (de_int (rd_add (rd_mod ?_ ?_))))))))))
    · have : (0 : Int) < 10 ^ (57 : Int).toNat := Int.pow_pos (by decide)
      omega
    · exact de_op op_pow (de_int (de_int (rd_pow (cpow (by decide) (by decide)) (rd_sub (q _)))))
  · refine dss_nil (dss_cons (ds_ret (de_op op_fdiv (de_op op_mod (de_op op_fdiv (de_var 1 rfl (de_int (rd_fdiv ⟨by decide, by decide⟩ (de_int (rd_mod (by decide) (de_int (rd_fdiv ⟨by decide, by decide⟩ (q _)))))))))))))
/-! ### _law_name -/
def F_name : List PyData → (PyData → Prop) → Prop := fun ds Ψ => ∃ c k : Nat, ds = [.int ((c : Nat) : Int), .int ((k : Nat) : Int)] ∧ Ψ (.str (nameOf c k))
abbrev sName : Stmt := topS 34
abbrev nName : List Str := ["_law_code", "_law_k", "_law_letters", "_law_first", "_law_long", "_law_told", "_law_name_here", "_law_j", "_law_step"]
theorem scName : FnScope nName ["_law_code", "_law_k"] (defScope sName) := ⟨rfl, rfl, rfl, by decide +kernel, rfl, by decide +kernel, by decide +kernel⟩
theorem has_name (T : Tx K mg) {lv : Nat} : Has P w K mg base "_law_name" (lv + 1) ["_law_code", "_law_k"] (spP F_name) := hasOf T.d_law_name fun f fd Fn => by
  refine okP Fn scName (fun ds Ψ h => by obtain ⟨_, _, rfl, _⟩ := h; rfl) fun cdv A outer s H E hr ds Ψ h => ?_
  obtain ⟨c, k, rfl, q⟩ := h
  refine dss_cons (ds_set 2 (de_str ?_) scName.nd)
  refine dss_cons (ds_set 3 (de_op op_mod (de_op op_fdiv (de_var 0 rfl (de_int (rd_fdiv ⟨by decide, by decide⟩ (de_int (rd_mod (by decide) ?_))))))) scName.nd)
  have e1 : ((c : Nat) : Int) / 64 % 26 = ((c / 64 % 26 : Nat) : Int) := by omega
  have e2 : ((c : Nat) : Int) / 1664 % 3 = ((c / 1664 % 3 : Nat) : Int) := by omega
  rw [e1]
  refine dss_cons (ds_if (dt_cmp op_eq (de_op op_mod (de_op op_fdiv (de_var 0 rfl (de_int (rd_fdiv ⟨by decide, by decide⟩ (de_int (rd_mod (by decide) (de_int (rd_eqI ⟨_, rfl, ?_⟩)))))))))))
  rw [e2]
  refine ite2 (fun cc => ?_) (fun cc => ?_)
  · have hc : c / 1664 % 3 = 2 := by have := of_decide_eq_true cc; omega
    unfold nameOf at q
    rw [if_pos hc] at q
    refine dss_cons (ds_ret (de_op op_mulS (de_ixs (de_var 2 rfl (de_op op_mod (de_op op_add (de_var 3 rfl (de_op op_fdiv (de_var 1 rfl (de_int (rd_fdiv ⟨by decide, by decide⟩ (rd_add (de_int (rd_mod (by decide) ?_))))))))))))))
    refine ⟨_, _, letterAt (c / 64 % 26 + k / 8), rfl, rfl, le1 rfl, ?_, ?_⟩
    · have e3 : (((c / 64 % 26 : Nat) : Int) + (k : Int) / 8) % 26 = (((c / 64 % 26 + k / 8) % 26 : Nat) : Int) := by omega
      rw [e3]
      exact letters_at _
    · refine de_op op_add (de_int (de_op op_mod (de_var 1 rfl (de_int (rd_mod (by decide) (rd_add (rd_mulS (mulOk1 rfl (by omega) (by omega)) ?_)))))))
      have e4 : (1 : Int) + (k : Int) % 8 = ((1 + k % 8 : Nat) : Int) := by omega
      rw [e4, mul_one (by omega) (by omega)]
      exact q
  have hc : ¬ c / 1664 % 3 = 2 := fun z => cc (by rw [z]; rfl)
  unfold nameOf at q
  rw [if_neg hc] at q
  refine dss_nil (dss_cons (ds_set 4 (de_op op_add (de_int (de_op op_mod (de_var 0 rfl (de_int (rd_mod (by decide) (rd_add ?_))))))) scName.nd))
  have e5 : (1 : Int) + (c : Int) % 8 = ((1 + c % 8 : Nat) : Int) := by omega
  rw [e5]
  refine dss_cons (ds_set 5 (de_op op_mod (de_op op_fdiv (de_var 0 rfl (de_int (rd_fdiv ⟨by decide, by decide⟩ (de_var 4 rfl (rd_mod (by omega) ?_))))))) scName.nd)
  have e6 : (c : Int) / 8 % ((1 + c % 8 : Nat) : Int) = ((c / 8 % (1 + c % 8) : Nat) : Int) := by
    rw [Int.natCast_emod, Int.natCast_ediv]; rfl
  rw [e6]
  refine dss_cons (ds_set 6 (de_str ?_) scName.nd)
  refine dss_cons (ds_for 7 (di_range T.z_range (de_var 4 rfl ⟨_, rfl, by omega, ?_⟩)) scName.nd PassesOwn.never)
  refine ⟨fun i δ' => ∃ x y, δ' = [.dt (.int ((c : Nat) : Int)), .dt (.int ((k : Nat) : Int)), .dt (.str "abcdefghijklmnopqrstuvwxyz"), .dt (.int ((c / 64 % 26 : Nat) : Int)), .dt (.int ((1 + c % 8 : Nat) : Int)), .dt (.int ((c / 8 % (1 + c % 8) : Nat) : Int)),
    .dt (.str ⟨((List.range i).map fun j => letterAt (c / 64 % 26 + stepAt c k j)).toArray⟩), x, y], ⟨_, _, rfl⟩, fun i d δ' e hP => ?_, fun δ' hP => ?_⟩
  · obtain ⟨x, y, rfl⟩ := hP
    obtain ⟨hi, rfl⟩ := rngD_get e
    refine dss_cons (ds_set 8 (de_op op_mul (de_op op_mod (de_op op_fdiv (de_var 0 rfl (de_int (rd_fdiv ⟨by decide, by decide⟩ (de_int (rd_mod (by decide) (de_var 7 rfl (rd_mul (.inl ⟨by omega, by omega⟩) ?_)))))))))) scName.nd)
    have e7 : ((c : Nat) : Int) / 1664 % 3 * ((i : Nat) : Int) = ((c / 1664 % 3 * i : Nat) : Int) := by rw [e2, Int.natCast_mul]
    rw [e7]
    refine dss_cons (ds_mono (fun δ' => δ' = [.dt (.int ((c : Nat) : Int)), .dt (.int ((k : Nat) : Int)), .dt (.str "abcdefghijklmnopqrstuvwxyz"), .dt (.int ((c / 64 % 26 : Nat) : Int)), .dt (.int ((1 + c % 8 : Nat) : Int)), .dt (.int ((c / 8 % (1 + c % 8) : Nat) : Int)),
      .dt (.str ⟨((List.range i).map fun j => letterAt (c / 64 % 26 + stepAt c k j)).toArray⟩), .dt (.int ((i : Nat) : Int)), .dt (.int ((stepAt c k i : Nat) : Int))]) ?_ fun δ' hN => ?_)
    · refine ds_if (dt_cmp op_eq (de_var 7 rfl (de_var 5 rfl (rd_eqI ⟨_, rfl, ?_⟩))))
      refine ite2 (fun ci => ?_) (fun ci => ?_)
      · have hi2 : i = c / 8 % (1 + c % 8) := by have := of_decide_eq_true ci; omega
        refine dss_cons (ds_set 8 (de_op op_add (de_var 8 rfl (de_var 1 rfl (rd_add (dss_nil ?_))))) scName.nd)
        have e8 : stepAt c k i = c / 1664 % 3 * i + k := by unfold stepAt; rw [if_pos hi2]
        rw [e8, Int.natCast_add]
        rfl
      · have hi2 : ¬ i = c / 8 % (1 + c % 8) := fun z => ci (decide_eq_true (by rw [← z]))
        have e8 : stepAt c k i = c / 1664 % 3 * i := by unfold stepAt; rw [if_neg hi2]; rfl
        rw [e8]
        exact dss_nil rfl
    · cases hN
      refine dss_cons (ds_set 6 (de_op op_add_str (de_var 6 rfl (de_ixs (de_var 2 rfl (de_op op_mod (de_op op_add (de_var 3 rfl (de_var 8 rfl (rd_add (de_int (rd_mod (by decide) ?_))))))))))) scName.nd)
      refine ⟨_, _, letterAt (c / 64 % 26 + stepAt c k i), rfl, rfl, le1 rfl, ?_, ?_⟩
      · have e3 : (((c / 64 % 26 : Nat) : Int) + ((stepAt c k i : Nat) : Int)) % 26 = (((c / 64 % 26 + stepAt c k i) % 26 : Nat) : Int) := by omega
        rw [e3]
        exact letters_at _
      · refine rd_catS ?_ (dss_nil ⟨.dt (.int ((i : Nat) : Int)), .dt (.int ((stepAt c k i : Nat) : Int)), ?_⟩)
        · show (List.map _ _).toArray.size + 1 ≤ 1000000
          rw [List.size_toArray, List.length_map, List.length_range]
          omega
        · have e9 : (⟨((List.range i).map fun j => letterAt (c / 64 % 26 + stepAt c k j)).toArray⟩ : Str) ++ (⟨#[letterAt (c / 64 % 26 + stepAt c k i)]⟩ : Str) = ⟨((List.range (i + 1)).map fun j => letterAt (c / 64 % 26 + stepAt c k j)).toArray⟩ := by
            show (⟨_ ++ _⟩ : Str) = _
            rw [List.range_succ, List.map_append]
            simp
          rw [e9]
          rfl
  · obtain ⟨x, y, rfl⟩ := hP
    rw [rngD_len]
    exact dss_cons (ds_ret (de_var 6 rfl q))
end
end WK

set_option Elab.async false
set_option linter.all false
set_option maxRecDepth 100000
set_option maxHeartbeats 4000000
namespace TM
open PySem
structure RowsGood (Ks : List Str) (rows : List Row) : Prop where
  bare : ∃ r ∈ rows, r.2 = []
  nd : (rows.map (·.1)).Nodup
  len : rows.length ≤ 3
  row : ∀ r ∈ rows, PyData.strOk r.1 = true ∧ r.2.length ≤ 4 ∧ ∀ b ∈ r.2, b ∈ Ks
theorem RowsGood.perm {Ks : List Str} {rows rows' : List Row} (h : RowsGood Ks rows) (p : rows'.Perm rows) : RowsGood Ks rows' := by
  obtain ⟨r, hr, e⟩ := h.bare
  exact ⟨⟨r, p.mem_iff.mpr hr, e⟩, (p.map (·.1)).nodup_iff.mpr h.nd, by rw [p.length_eq]; exact h.len, fun r hr => h.row r (p.mem_iff.mp hr)⟩
theorem rowsOf_mem : ∀ {w : Wood} {k : Str}, k ∈ kinds w → ∃ p ∈ w, p.1 = k ∧ rowsOf w k = p.2
  | [], k, h => by simp [kinds] at h
  | (told, rows) :: w, k, h => by
    by_cases e : told = k
    · exact ⟨(told, rows), List.mem_cons_self, e, by rw [rowsOf, if_pos e]⟩
    · unfold kinds at h
      rw [List.map_cons, List.mem_cons] at h
      rcases h with h | h
      · exact absurd h.symm e
      · obtain ⟨p, h1, h2, h3⟩ := rowsOf_mem (w := w) h
        exact ⟨p, List.mem_cons_of_mem _ h1, h2, by rw [rowsOf, if_neg e]; exact h3⟩
theorem goodWood_of {w : Wood} (h1 : w.length ≤ 3) (h2 : w ≠ []) (h3 : ∀ k ∈ kinds w, PyData.strOk k = true) (h4 : ∀ p ∈ w, RowsGood (kinds w) p.2) : GoodWood w := by
  have key : ∀ k ∈ kinds w, RowsGood (kinds w) (rowsOf w k) := fun k hk => by
    obtain ⟨p, q1, q2, q3⟩ := rowsOf_mem hk
    rw [q3]
    exact h4 p q1
  exact ⟨⟨h1, h2⟩, h3, fun k hk => (key k hk).bare, fun k hk => (key k hk).nd, fun k hk => (key k hk).len, fun k hk => (key k hk).row⟩
theorem nodup_names {c a : Nat} : ∀ n : Nat, a + n ≤ 16 → ((List.range n).map fun t => nameOf c (a + t)).Nodup := fun n h => by
  refine List.Pairwise.map _ (R := fun x y => x < n ∧ y < n ∧ x ≠ y) (fun x y hxy e => ?_) ?_
  · have := nameOf_inj (by omega) (by omega) e
    omega
  · have nd : (List.range n).Nodup := List.nodup_range
    exact List.Pairwise.imp_of_mem (fun hx hy hne => ⟨List.mem_range.mp hx, List.mem_range.mp hy, hne⟩) nd
def rowP (r : Row) : Str × PyData := (r.1, .tuple (r.2.map encStr))
theorem encRow_P (rows : List Row) : rows.map encRow = (rows.map rowP).map DL.rowD := by rw [List.map_map]; rfl
end TM
namespace WK
open PySem PySem.Spec PyProof.Rows L2 DL TM
section
variable {P : Program} {w : World} {K : PySem.W.Frag} {mg : Str → Option Value} {base : Heap}
theorem nat_of {z : Int} (h : 0 ≤ z) : ∃ n : Nat, z = (n : Int) := Int.eq_ofNat_of_zero_le h
/-! ### _law_wood -/
def F_wood : List PyData → (PyData → Prop) → Prop := fun ds Ψ => ∃ c : Nat, ds = [.int ((c : Nat) : Int)] ∧ ∀ wd : Wood, GoodWood wd → (∀ p ∈ wd, p.1 ∈ kinds wd ∧ RowsGood (kinds wd) p.2) → Ψ (encWood wd)
abbrev sWood : Stmt := topS 35
abbrev nWood : List Str := ["_law_deck", "_law_code", "_law_count", "_law_apart", "_law_wood_here", "_law_k", "_law_rows_here", "_law_j", "_law_branches", "_law_i"]
theorem scWood : FnScope nWood ["_law_deck", "_law_code"] (defScope sWood) := ⟨rfl, rfl, rfl, by decide +kernel, rfl, by decide +kernel, by decide +kernel⟩
theorem has_wood (T : Tx K mg) {lv : Nat} : Has P w K mg base "_law_wood" (lv + 2) ["_law_deck", "_law_code"] (spK F_wood) := hasOf T.d_law_wood fun f fd Fn => by
  refine okK Fn scWood (fun ds Ψ h => by obtain ⟨_, rfl, _⟩ := h; rfl) fun cdv A outer s H E hr ds Ψ h => ?_
  obtain ⟨c, rfl, q⟩ := h
  refine dss_cons (ds_set 2 (de_op op_add (de_int (de_callK 0 (has_draw T (lv := lv)) hr (Nat.le_refl _) rfl (da_cons (de_int (da_nil ⟨_, rfl, by decide, fun z h0 h1 => rd_add ?_⟩)))))) scWood.nd)
  obtain ⟨cn, rfl⟩ := nat_of h0
  have ec : (1 : Int) + (cn : Int) = ((1 + cn : Nat) : Int) := by omega
  have hcn : cn ≤ 2 := by omega
  rw [ec]
  refine dss_cons (ds_set 3 (de_op op_mul (de_callK 0 (has_draw T (lv := lv)) hr (Nat.le_refl _) rfl (da_cons (de_int (da_nil ⟨_, rfl, by decide, fun z h0 h1 => de_int (rd_mul (.inr ⟨by decide, by decide⟩) ?_)⟩))))) scWood.nd)
  obtain ⟨an, rfl⟩ := nat_of h0
  have ea : (an : Int) * 3 = ((an * 3 : Nat) : Int) := by omega
  have han : an * 3 ≤ 3 := by omega
  rw [ea]
  generalize an * 3 = a at han
  clear ec ea
  refine dss_cons (ds_own 4 (dl_lst (da_nil ⟨le1 rfl, ?_⟩)) scWood.nd)
  let Ks := (List.range (1 + cn)).map (nameOf c)
  refine dss_cons (ds_for 5 (di_range T.z_range (de_var 2 rfl ⟨_, rfl, by omega, ?_⟩)) scWood.nd PassesOwn.never)
  refine ⟨fun i δ' => ∃ (wd : Wood) (x y z u : Sl), kinds wd = (List.range i).map (nameOf c) ∧ (∀ p ∈ wd, RowsGood Ks p.2) ∧ δ' = [.dk, .dt (.int ((c : Nat) : Int)), .dt (.int ((1 + cn : Nat) : Int)), .dt (.int ((a : Nat) : Int)), .ow (wd.map encKind), x, y, z, u, .no],
    ⟨[], _, _, _, _, rfl, fun p hp => by simp at hp, rfl⟩, fun i d δ' e hP => ?_, fun δ' hP => ?_⟩
  · obtain ⟨wd, x, y, z, u, hk, hg, rfl⟩ := hP
    obtain ⟨hi, rfl⟩ := rngD_get e
    have hai : a * i ≤ 3 * 2 := Nat.mul_le_mul han (by omega)
    have hwl : wd.length = i := by
      have := congrArg List.length hk
      simpa [kinds] using this
    have em : ((a : Nat) : Int) * ((i : Nat) : Int) = ((a * i : Nat) : Int) := (Int.natCast_mul a i).symm
    have cm : CMul (a : Int) (i : Int) := .inl ⟨by omega, by omega⟩
    refine dss_cons (ds_own 6 (dl_lst (da_cons (de_tup (da_cons (de_call (has_name T (lv := lv)) hr (by omega) (da_cons (de_var 1 rfl (da_cons (de_op op_add (de_int (de_op op_mul (de_var 3 rfl (de_var 5 rfl (rd_mul cm (rd_add ?_)))))))))))))) ) scWood.nd)
    refine da_nil ⟨c, 3 + a * i, by rw [em]; rfl, da_cons (de_tup (da_nil ⟨le1 rfl, da_nil ⟨le1 rfl, da_nil ⟨le1 rfl, ?_⟩⟩⟩))⟩
    refine dss_cons (ds_for 7 (di_range T.z_range (de_callK 0 (has_draw T (lv := lv)) hr (Nat.le_refl _) rfl (da_cons (de_int (da_nil ⟨_, rfl, by decide, fun zz h0 h1 => ?_⟩))))) scWood.nd PassesOwn.never)
    obtain ⟨jn, rfl⟩ := nat_of h0
    have hjn : jn ≤ 2 := by omega
    refine ⟨_, rfl, by omega, ?_⟩
    refine ⟨fun j δ' => ∃ (rows : List TM.Row) (z u : Sl), rows.map (·.1) = (List.range (j + 1)).map (fun t => nameOf c (3 + a * i + t)) ∧ (∃ r ∈ rows, r.2 = []) ∧ (∀ r ∈ rows, PyData.strOk r.1 = true ∧ r.2.length ≤ 4 ∧ ∀ b ∈ r.2, b ∈ Ks) ∧
      δ' = [.dk, .dt (.int ((c : Nat) : Int)), .dt (.int ((1 + cn : Nat) : Int)), .dt (.int ((a : Nat) : Int)), .ow (wd.map encKind), .dt (.int ((i : Nat) : Int)), .ow (rows.map encRow), z, u, .no],
      ⟨[(nameOf c (3 + a * i), [])], _, _, rfl, ⟨_, List.mem_cons_self, rfl⟩, fun r hr => ?_, rfl⟩, fun j d δ' e hP => ?_, fun δ' hP => ?_⟩
    · rw [List.mem_singleton] at hr
      subst hr
      exact ⟨nameOf_ok _ _, Nat.zero_le _, fun b hb => by simp at hb⟩
    · obtain ⟨rows, z, u, hr1, hr2, hr3, rfl⟩ := hP
      obtain ⟨hj, rfl⟩ := rngD_get e
      have hrl : rows.length = j + 1 := by
        have := congrArg List.length hr1
        simpa using this
      refine dss_cons (ds_lc 8 9 (blkOk_by (N := nWood) (sc := defScope sWood) (by decide +kernel)) scWood.nd ?_ (sw_true rfl rfl rfl (by decide +kernel)))
      refine di_range T.z_range (de_callK 0 (has_draw T (lv := lv)) hr (Nat.le_refl _) rfl (da_cons (de_int (da_nil ⟨_, rfl, by decide, fun zz h0 h1 => ?_⟩))))
      obtain ⟨bn, rfl⟩ := nat_of h0
      refine ⟨_, rfl, by omega, by rw [rngD_len]; omega, fun i acc => ∃ bs : List Str, acc = bs.map encStr ∧ bs.length = i ∧ ∀ b ∈ bs, b ∈ Ks, ⟨[], rfl, rfl, fun b hb => by simp at hb⟩, fun l d acc e1 e2 => ?_, fun acc e => ?_⟩
      · obtain ⟨bs, rfl, hbl, hbk⟩ := e2
        intro s1 H0 Cl cl fp
        refine de_call (has_name T (lv := lv)) hr (by omega) (da_cons (de_var 1 rfl (da_cons (de_callK 0 (has_draw T (lv := lv)) hr (Nat.le_refl _) rfl (da_cons (de_var 2 rfl (da_nil ⟨_, rfl, by omega, fun zz h0 h1 => ?_⟩)))))))
        obtain ⟨kn, rfl⟩ := nat_of h0
        refine da_nil ⟨c, kn, rfl, bs ++ [nameOf c kn], by rw [List.map_append]; rfl, by rw [List.length_append, hbl]; rfl, fun b hb => ?_⟩
        rcases List.mem_append.mp hb with h | h
        · exact hbk b h
        · rw [List.mem_singleton] at h
          rw [h]
          exact List.mem_map.mpr ⟨kn, List.mem_range.mpr (by omega), rfl⟩
      · obtain ⟨bs, rfl, hbl, hbk⟩ := e
        rw [rngD_len] at hbl
        refine dss_frz 8 rfl (dss_cons (ds_append 6 rfl (by rw [List.length_map]; omega) ?_))
        refine de_tup (da_cons (de_call (has_name T (lv := lv)) hr (by omega) (da_cons (de_var 1 rfl ?_))))
        refine da_cons (de_op op_add (de_op op_add (de_int (de_var 7 rfl (rd_add ?_)))))
        refine de_op op_mul (de_var 3 rfl (de_var 5 rfl (rd_mul cm (rd_add ?_))))
        refine da_nil ⟨c, 4 + j + a * i, by rw [em]; rfl, da_cons (de_tupleOf T.z_tuple (de_var 8 rfl ⟨_, .inl rfl, da_nil ⟨le1 rfl, dss_nil ?_⟩⟩))⟩
        refine ⟨rows ++ [(nameOf c (4 + j + a * i), bs)], .dt (.int ((j : Nat) : Int)), .dt (.list (bs.map encStr)), ?_, ?_, fun r hr => ?_, by rw [List.map_append]; rfl⟩
        · rw [List.map_append, hr1, List.range_succ (n := j + 1), List.map_append]
          show _ ++ [nameOf c (4 + j + a * i)] = _ ++ [nameOf c (3 + a * i + (j + 1))]
          rw [show 4 + j + a * i = 3 + a * i + (j + 1) by omega]
        · obtain ⟨r, h1, h2⟩ := hr2
          exact ⟨r, List.mem_append_left _ h1, h2⟩
        · rcases List.mem_append.mp hr with h | h
          · exact hr3 r h
          · rw [List.mem_singleton] at h
            subst h
            exact ⟨nameOf_ok _ _, by show bs.length ≤ 4; omega, hbk⟩
    · obtain ⟨rows, z, u, hr1, hr2, hr3, rfl⟩ := hP
      rw [rngD_len] at hr1
      have hrl : rows.length = jn + 1 := by
        have := congrArg List.length hr1
        simpa using this
      have good : RowsGood Ks rows := ⟨hr2, by rw [hr1]; exact nodup_names _ (by omega), by omega, hr3⟩
      refine dss_frz 6 rfl (dss_cons (ds_append 4 rfl (by rw [List.length_map]; omega) (de_tup (da_cons (de_call (has_name T (lv := lv)) hr (by omega) (da_cons (de_var 1 rfl (da_cons (de_var 5 rfl (da_nil ⟨c, i, rfl, ?_⟩))))))))))
      refine da_cons (de_dl (dl_sorted T.z_sorted (de_var 6 rfl ⟨rows.map rowP, by rw [← encRow_P], by rw [List.map_map]; exact good.nd, fun out ho => da_nil ⟨le1 rfl, dss_nil ?_⟩⟩)))
      obtain ⟨rows', hp, rfl⟩ := perm_map ho rfl
      rw [← encRow_P]
      refine ⟨wd ++ [(nameOf c i, rows')], _, _, _, _, ?_, fun p hp2 => ?_, by rw [List.map_append]; rfl⟩
      · unfold kinds at hk ⊢
        rw [List.map_append, hk, List.range_succ, List.map_append]
        rfl
      · rcases List.mem_append.mp hp2 with h | h
        · exact hg p h
        · rw [List.mem_singleton] at h
          subst h
          exact good.perm hp
  · obtain ⟨wd, x, y, z, u, hk, hg, rfl⟩ := hP
    rw [rngD_len] at hk
    have hwl : wd.length = 1 + cn := by
      have := congrArg List.length hk
      simpa [kinds] using this
    refine dss_frz 4 rfl (dss_cons (ds_ret (de_var 4 rfl (q wd (goodWood_of (by omega) (fun z => by rw [z] at hwl; simp at hwl; omega) (fun k hk2 => ?_) (by rw [hk]; exact hg)) fun p hp => ⟨List.mem_map.mpr ⟨p, hp, rfl⟩, by rw [hk]; exact hg p hp⟩))))
    rw [hk] at hk2
    obtain ⟨n, _, rfl⟩ := List.mem_map.mp hk2
    exact nameOf_ok _ _
end
end WK

set_option Elab.async false
set_option linter.all false
set_option maxRecDepth 100000
set_option maxHeartbeats 4000000
namespace TM
open PySem
theorem oksT_app {a b : List Term} (h1 : Term.oks a) (h2 : Term.oks b) : Term.oks (a ++ b) := Term.oks_of fun p hp => by
  rcases List.mem_append.mp hp with h | h
  · exact Term.oks_mem h1 p h
  · exact Term.oks_mem h2 p h
theorem callssT_app {Q : Nat → Nat → Prop} {a b : List Term} (h1 : Term.callss Q a) (h2 : Term.callss Q b) : Term.callss Q (a ++ b) := Term.callss_of fun p hp => by
  rcases List.mem_append.mp hp with h | h
  · exact Term.callss_mem h1 p h
  · exact Term.callss_mem h2 p h
theorem deepsT_app : ∀ (a b : List Term), Term.deeps (a ++ b) = max (Term.deeps a) (Term.deeps b)
  | [], b => by show Term.deeps b = max 0 _; omega
  | p :: a, b => by
    show max p.deep (Term.deeps (a ++ b)) = max (max p.deep (Term.deeps a)) (Term.deeps b)
    rw [deepsT_app a b]; omega
theorem putssT_app : ∀ (a b : List Term), Term.putss (a ++ b) = Term.putss a + Term.putss b
  | [], b => by show Term.putss b = 0 + _; omega
  | p :: a, b => by
    show p.puts + Term.putss (a ++ b) = (p.puts + Term.putss a) + Term.putss b
    rw [putssT_app a b]; omega
theorem deepsT_one (p : Term) : Term.deeps [p] = p.deep := by show max p.deep 0 = _; omega
theorem putssT_one (p : Term) : Term.putss [p] = p.puts := by show p.puts + 0 = _; omega
theorem putssT_take {ps : List Term} {i : Nat} {p : Term} (h : ps[i]? = some p) : Term.putss (ps.take (i + 1)) = Term.putss (ps.take i) + p.puts := by
  rw [List.take_add_one, h, putssT_app]
  show _ + Term.putss [p] = _
  rw [putssT_one]
end TM
namespace WK
open PySem PySem.Spec PyProof.Rows L2 DL TM
theorem canLay_Cs : ∀ cs : List (Nat × Nat), PyData.canLayAll0 (cs.map encC) = true ∧ PyData.depthAll (cs.map encC) ≤ 1
  | [] => by simp [PyData.canLayAll0, PyData.depthAll]
  | c :: cs => by
    obtain ⟨h1, h2⟩ := canLay_Cs cs
    refine ⟨?_, ?_⟩
    · simp only [List.map_cons, PyData.canLayAll0, encC, PyData.canLay0, h1, Bool.and_true]
    · simp only [List.map_cons, PyData.depthAll, encC, PyData.depth]; omega
theorem shaped_Cs (cs : List (Nat × Nat)) : SeqAt.shaped (.list (cs.map encC)) = true := by
  obtain ⟨h1, h2⟩ := canLay_Cs cs
  refine (shaped_iff _).mpr ⟨?_, ?_⟩
  · rw [PyData.canLay0]; exact h1
  · rw [PyData.depth]; omega
theorem shaped_nilL : SeqAt.shaped (.list []) = true := by decide
theorem eqv_Cs (cs : List (Nat × Nat)) : PyData.eqv (.list (cs.map encC)) (.list []) = cs.isEmpty := by cases cs <;> rfl
section
variable {P : Program} {w : World} {K : PySem.W.Frag} {mg : Str → Option Value} {base : Heap}
/-! ### _law_term -/
def F_term (n : Nat) : List PyData → (PyData → Prop) → Prop := fun ds Ψ => ∃ (c : Nat) (cs : List (Nat × Nat)) (d : Int) (Q : Nat → Nat → Prop), ds = [.int ((c : Nat) : Int), .list (cs.map encC), .int d] ∧ d ≤ n ∧ n ≤ 2 ∧ cs.length ≤ 16 ∧ (∀ x ∈ cs, Q x.1 x.2) ∧
  ∀ t : Term, t.ok → t.deep ≤ n + 1 → t.puts ≤ (n + 1) * (n + 1) → t.calls Q → Ψ (encT t)
abbrev sTerm : Stmt := topS 37
abbrev pTerm : List Str := ["_law_deck", "_law_code", "_law_calls_here", "_law_deep_here"]
abbrev nTerm : List Str := ["_law_deck", "_law_code", "_law_calls_here", "_law_deep_here", "_law_pick", "_law_parts", "_law_count", "_law_k", "_law_name_here"]
theorem scTerm : FnScope nTerm pTerm (defScope sTerm) := ⟨rfl, rfl, rfl, by decide +kernel, rfl, by decide +kernel, by decide +kernel⟩
theorem ok_term {n : Nat} (T : Tx K mg) (ih : ∀ m, m < n → Has P w K mg base "_law_term" (m + 3) pTerm (spK (F_term m))) :
    Has P w K mg base "_law_term" (n + 3) pTerm (spK (F_term n)) := hasOf T.d_law_term fun f fd Fn => by
  refine okK Fn scTerm (fun ds Ψ h => by obtain ⟨_, _, _, _, rfl, _⟩ := h; rfl) fun cdv A outer s H E hr ds Ψ h => ?_
  obtain ⟨c, cs, d, Q, rfl, hd, hn, hl, hQ, q⟩ := h
  refine dss_cons (ds_set 4 (de_callK 0 (has_draw T (lv := 0)) hr (by omega) rfl (da_cons (de_int (da_nil ⟨_, rfl, by decide, fun z h0 h1 => ?_⟩)))) scTerm.nd)
  refine dss_cons (ds_if (dt_of (dw_and (dt_cmp op_gt (de_var 4 rfl (de_int (rd_gt ⟨_, rfl, ?_⟩)))))))
  have rest : DSs (cxOf CX0 P w K mg base nTerm "_law_term" (defScope sTerm) f cdv A outer s H E).nox [.dk, .dt (.int ((c : Nat) : Int)), .dt (.list (cs.map encC)), .dt (.int d), .dt (.int z), .no, .no, .no, .no] ((defBody sTerm).drop 2) { nx := fun _ => Ψ .none, rt := Ψ } := by
    refine dss_cons (ds_own 5 (dl_lst (da_nil ⟨le1 rfl, ?_⟩)) scTerm.nd)
    refine dss_cons (ds_mono (fun δ' => ∃ (ts : List Term) (x y : Sl), Term.oks ts ∧ Term.deeps ts ≤ n ∧ Term.putss ts + 1 ≤ (n + 1) * (n + 1) ∧ Term.callss Q ts ∧ ts.length ≤ 3 ∧
      δ' = [.dk, .dt (.int ((c : Nat) : Int)), .dt (.list (cs.map encC)), .dt (.int d), .dt (.int z), .ow (encTs ts), x, y, .no]) ?_ fun δ' hN => ?_)
    · refine ds_if (dt_cmp op_gt (de_var 3 rfl (de_int (rd_gt ⟨_, rfl, ?_⟩))))
      refine ite2 (fun cc => ?_) (fun cc => ?_)
      · have hd0 : 0 < d := of_decide_eq_true cc
        refine dss_cons (ds_set 6 (de_callK 0 (has_draw T (lv := 0)) hr (by omega) rfl (da_cons (de_int (da_nil ⟨_, rfl, by decide, fun z1 h0 h1 => ?_⟩)))) scTerm.nd)
        obtain ⟨cn, rfl⟩ := nat_of h0
        have hcn : cn ≤ 3 := by omega
        refine dss_cons (ds_for 7 (di_range T.z_range (de_var 6 rfl ⟨_, rfl, by omega, ?_⟩)) scTerm.nd PassesOwn.never)
        obtain ⟨m, hm1, hm2, hm3⟩ : ∃ m : Nat, m < n ∧ d - 1 - (cn : Int) / 3 ≤ m ∧ cn * ((m + 1) * (m + 1)) + 1 ≤ (n + 1) * (n + 1) := by
          have hn' : n = 1 ∨ n = 2 := by omega
          rcases hn' with rfl | rfl
          · exact ⟨0, by omega, by omega, by omega⟩
          · by_cases h3 : cn = 3
            · subst h3; exact ⟨0, by omega, by omega, by omega⟩
            · exact ⟨1, by omega, by omega, by omega⟩
        refine ⟨fun i δ' => ∃ (ts : List Term) (y : Sl), Term.oks ts ∧ Term.deeps ts ≤ m + 1 ∧ Term.putss ts ≤ i * ((m + 1) * (m + 1)) ∧ Term.callss Q ts ∧ ts.length = i ∧
          δ' = [.dk, .dt (.int ((c : Nat) : Int)), .dt (.list (cs.map encC)), .dt (.int d), .dt (.int z), .ow (encTs ts), .dt (.int ((cn : Nat) : Int)), y, .no],
          ⟨[], _, trivial, Nat.zero_le _, Nat.zero_le _, trivial, rfl, rfl⟩, fun i dd δ' e hP => ?_, fun δ' hP => ?_⟩
        · obtain ⟨ts, y, k1, k2, k3, k4, k5, rfl⟩ := hP
          obtain ⟨hi, rfl⟩ := rngD_get e
          refine dss_cons (ds_append 5 rfl (by rw [encTs_len]; omega) (de_callK 0 (ih m hm1) hr (by omega) rfl (da_cons (de_var 1 rfl (da_cons (de_var 2 rfl ?_))))))
          refine da_cons (de_op op_sub (de_op op_sub (de_var 3 rfl (de_int (rd_sub (de_op op_fdiv (de_var 6 rfl (de_int (rd_fdiv ⟨by decide, by decide⟩ (rd_sub ?_))))))))))
          refine da_nil ⟨c, cs, _, Q, rfl, hm2, by omega, hl, hQ, fun t o1 o2 o3 o4 => dss_nil ⟨ts ++ [t], .dt (.int ((i : Nat) : Int)), oksT_app k1 ⟨o1, trivial⟩, ?_, ?_, callssT_app k4 ⟨o4, trivial⟩, ?_, ?_⟩⟩
          · rw [deepsT_app, deepsT_one]; omega
          · rw [putssT_app, putssT_one, Nat.add_mul, Nat.one_mul]; omega
          · rw [List.length_append, k5]; rfl
          · rw [encTs_app]; rfl
        · obtain ⟨ts, y, k1, k2, k3, k4, k5, rfl⟩ := hP
          rw [rngD_len] at k3 k5
          exact dss_nil ⟨ts, _, y, k1, by omega, by omega, k4, by omega, rfl⟩
      · exact dss_nil ⟨[], _, _, trivial, Nat.zero_le _, Nat.mul_pos (Nat.succ_pos n) (Nat.succ_pos n), trivial, Nat.zero_le _, rfl⟩
    · obtain ⟨ts, x, y, k1, k2, k3, k4, k5, rfl⟩ := hN
      refine dss_frz 5 rfl (dss_cons (ds_set 8 (de_call (has_name T (lv := 0)) hr (by omega) (da_cons (de_var 1 rfl ?_))) scTerm.nd))
      refine da_cons (de_op op_add (de_int (de_callK 0 (has_draw T (lv := 0)) hr (by omega) rfl (da_cons (de_int (da_nil ⟨_, rfl, by decide, fun z1 h0 h1 => rd_add ?_⟩))))))
      obtain ⟨kn, rfl⟩ := nat_of h0
      refine da_nil ⟨c, 3 + kn, by rw [Int.natCast_add]; rfl, ?_⟩
      refine dss_cons (ds_ret (de_tup (da_cons (de_str (da_cons (de_var 8 rfl ?_))))))
      refine da_cons (de_cmp op_eq (de_var 4 rfl (de_int (rd_eqI ?_))))
      refine da_cons (de_callK 0 (has_mark T (lv := 0)) hr (by omega) rfl (da_nil ⟨rfl, fun mk => ?_⟩))
      refine da_cons (de_tupleOf T.z_tuple (de_var 5 rfl ⟨_, .inl rfl, da_nil ⟨le1 rfl, ?_⟩⟩))
      refine q (.put (nameOf c (3 + kn)) (decide (z = 0)) mk ts) ⟨nameOf_ok _ _, by omega, k1⟩ ?_ k3 k4
      show Term.deeps ts + 1 ≤ n + 1
      omega
  refine ite2 (fun cc => ?_) (fun cc => ?_)
  · refine dw_and1 (dt_cmp (op_neD hr.units) (de_var 2 rfl (de_dl (dl_lst (da_nil ⟨le1 rfl, rd_neD (shaped_Cs cs) shaped_nilL ⟨_, rfl, ?_⟩⟩)))))
    rw [eqv_Cs]
    refine ite2 (fun ce => ?_) (fun ce => dss_nil rest)
    have hne : 0 < cs.length := by cases cs with | nil => cases ce | cons => exact Nat.succ_pos _
    refine dss_cons (ds_ret (de_op op_catA (de_tup (da_cons (de_str (da_nil ⟨le1 rfl, ?_⟩))))))
    refine de_ix (de_var 2 rfl (de_callK 0 (has_draw T (lv := 0)) hr (by omega) rfl (da_cons (de_len T.z_len (de_var 2 rfl ⟨_, .inl rfl, da_nil ⟨_, rfl, by rw [List.length_map]; omega, fun z1 h0 h1 => ?_⟩⟩)))))
    obtain ⟨kn, rfl⟩ := nat_of h0
    rw [List.length_map] at h1
    have hk : kn < cs.length := by omega
    have hg : cs[kn]? = some cs[kn] := List.getElem?_eq_getElem hk
    refine ⟨_, _, encC cs[kn], .inl rfl, rfl, atI_c (by rw [List.getElem?_map, hg]; rfl), rd_catT (le1 rfl) ?_⟩
    exact q (.call cs[kn].1 cs[kn].2) trivial (by show 1 ≤ n + 1; omega) (by show 1 ≤ (n + 1) * (n + 1); exact Nat.mul_pos (Nat.succ_pos n) (Nat.succ_pos n)) (hQ _ (List.mem_of_getElem? hg))
  · exact dss_nil rest
theorem has_term (T : Tx K mg) : ∀ n, Has P w K mg base "_law_term" (n + 3) pTerm (spK (F_term n)) := fun n => by
  induction n using Nat.strongRecOn with
  | ind n ih => exact ok_term T ih
/-! ### _law_changed -/
def F_changed (n : Nat) : List PyData → (PyData → Prop) → Prop := fun ds Ψ => ∃ (c : Nat) (t : Term) (cs : List (Nat × Nat)) (Q : Nat → Nat → Prop), ds = [.int ((c : Nat) : Int), encT t, .list (cs.map encC)] ∧ t.ok ∧ t.deep ≤ n ∧ t.calls (fun _ _ => False) ∧ cs.length ≤ 16 ∧ (∀ x ∈ cs, Q x.1 x.2) ∧
  ∀ t' : Term, t'.ok → t'.deep ≤ t.deep → t'.puts ≤ t.puts → t'.calls Q → Ψ (encT t')
abbrev sChanged : Stmt := topS 38
abbrev pChanged : List Str := ["_law_deck", "_law_code", "_law_term_here", "_law_calls_here"]
abbrev nChanged : List Str := ["_law_deck", "_law_code", "_law_term_here", "_law_calls_here", "_law_pick", "_law_name_here", "_law_parts", "_law_part"]
theorem scChanged : FnScope nChanged pChanged (defScope sChanged) := ⟨rfl, rfl, rfl, by decide +kernel, rfl, by decide +kernel, by decide +kernel⟩
theorem ok_changed {n : Nat} (T : Tx K mg) (ih : ∀ m, m + 1 = n → Has P w K mg base "_law_changed" (m + 3) pChanged (spK (F_changed m))) :
    Has P w K mg base "_law_changed" (n + 3) pChanged (spK (F_changed n)) := hasOf T.d_law_changed fun f fd Fn => by
  refine okK Fn scChanged (fun ds Ψ h => by obtain ⟨_, _, _, _, rfl, _⟩ := h; rfl) fun cdv A outer s H E hr ds Ψ h => ?_
  obtain ⟨c, t, cs, Q, rfl, ok, hd, hc, hl, hQ, q⟩ := h
  cases t with
  | call m b => exact hc.elim
  | put n1 kk a ps =>
  have hd' : Term.deeps ps + 1 ≤ n := hd
  refine dss_cons (ds_set 4 (de_callK 0 (has_draw T (lv := 0)) hr (by omega) rfl (da_cons (de_int (da_nil ⟨_, rfl, by decide, fun z h0 h1 => ?_⟩)))) scChanged.nd)
  refine dss_cons (ds_if (dt_of (dw_and (dt_cmp op_eq (de_var 4 rfl (de_int (rd_eqI ⟨_, rfl, ?_⟩)))))))
  have rest : DSs (cxOf CX0 P w K mg base nChanged "_law_changed" (defScope sChanged) f cdv A outer s H E).nox [.dk, .dt (.int ((c : Nat) : Int)), .dt (encT (.put n1 kk a ps)), .dt (.list (cs.map encC)), .dt (.int z), .no, .no, .no] ((defBody sChanged).drop 2) { nx := fun _ => Ψ .none, rt := Ψ } := by
    refine dss_cons (ds_if (dt_cmp op_eq (de_var 4 rfl (de_int (rd_eqI ⟨_, rfl, ?_⟩)))))
    refine ite2 (fun cc => ?_) (fun cc => ?_)
    · refine dss_cons (ds_set 5 (de_call (has_name T (lv := 0)) hr (by omega) (da_cons (de_var 1 rfl ?_))) scChanged.nd)
      refine da_cons (de_op op_add (de_int (de_callK 0 (has_draw T (lv := 0)) hr (by omega) rfl (da_cons (de_int (da_nil ⟨_, rfl, by decide, fun z1 h0 h1 => rd_add ?_⟩))))))
      obtain ⟨kn, rfl⟩ := nat_of h0
      refine da_nil ⟨c, 3 + kn, by rw [Int.natCast_add]; rfl, ?_⟩
      refine dss_cons (ds_ret (de_tup (da_cons (de_str (da_cons (de_var 5 rfl (da_cons (de_bl ?_))))))))
      refine da_cons (de_callK 0 (has_mark T (lv := 0)) hr (by omega) rfl (da_nil ⟨rfl, fun mk => da_cons (de_tup (da_nil ⟨le1 rfl, da_nil ⟨le1 rfl, ?_⟩⟩))⟩))
      refine q (.put (nameOf c (3 + kn)) false mk []) ⟨nameOf_ok _ _, Nat.zero_le _, trivial⟩ ?_ ?_ trivial
      · show 0 + 1 ≤ Term.deeps ps + 1; omega
      · show 0 + 1 ≤ Term.putss ps + 1; omega
    · refine dss_nil (dss_cons (ds_lc 6 7 (blkOk_by (N := nChanged) (sc := defScope sChanged) (by decide +kernel)) scChanged.nd ?_ (sw_true rfl rfl rfl (by decide +kernel))))
      refine di_tup (de_ixc (de_var 2 rfl ⟨_, _, .inl rfl, rfl, _, rfl, ?_⟩))
      refine ⟨by rw [encTs_len]; exact Nat.le_trans ok.2.1 (by decide), fun i acc => ∃ ts : List Term, acc = encTs ts ∧ ts.length = i ∧ Term.oks ts ∧ Term.callss Q ts ∧ Term.deeps ts ≤ Term.deeps ps ∧ Term.putss ts ≤ Term.putss (ps.take i), ⟨[], rfl, rfl, trivial, trivial, Nat.zero_le _, Nat.zero_le _⟩, fun i d acc e1 e2 => ?_, fun acc e => ?_⟩
      · obtain ⟨ts, rfl, k1, k2, k3, k4, k5⟩ := e2
        rw [encTs_get] at e1
        obtain ⟨p, hp, rfl⟩ := Option.map_eq_some_iff.mp e1
        have mp := List.mem_of_getElem? hp
        have hpd : p.deep ≤ Term.deeps ps := Term.deep_mem mp
        intro s1 H0 Cl cl fp
        refine de_callK 0 (ih (n - 1) (by omega)) hr (by omega) rfl (da_cons (de_var 1 rfl (da_cons (de_var 7 rfl (da_cons (de_var 3 rfl (da_nil ⟨c, p, cs, Q, rfl, Term.oks_mem ok.2.2 p mp, by omega, Term.callss_mem hc p mp, hl, hQ, fun t' o1 o2 o3 o4 => ?_⟩)))))))
        refine ⟨ts ++ [t'], by rw [encTs_app]; rfl, by rw [List.length_append, k1]; rfl, oksT_app k2 ⟨o1, trivial⟩, callssT_app k3 ⟨o4, trivial⟩, ?_, ?_⟩
        · rw [deepsT_app, deepsT_one]; omega
        · rw [putssT_app, putssT_one, putssT_take hp]; omega
      · obtain ⟨ts, rfl, k1, k2, k3, k4, k5⟩ := e
        rw [encTs_len] at k1 k5
        rw [List.take_length] at k5
        refine dss_frz 6 rfl (dss_cons (ds_ret (de_tup (da_cons (de_str (da_cons (de_ixc (de_var 2 rfl ⟨_, _, .inl rfl, rfl, ?_⟩))))))))
        have fin : ∀ b : Bool, Ψ (encT (.put n1 b a ts)) := fun b => q _ ⟨ok.1, by rw [k1]; exact ok.2.1, k2⟩ (by show Term.deeps ts + 1 ≤ Term.deeps ps + 1; omega) (by show Term.putss ts + 1 ≤ Term.putss ps + 1; omega) k3
        refine da_cons (de_and (de_ixc (de_var 2 rfl ⟨_, _, .inl rfl, rfl, kk, rfl, ?_⟩)))
        refine ite2 (fun ck => ?_) (fun ck => ?_)
        · refine de_one (de_cmp op_lt (de_var 4 rfl (de_int (rd_lt ?_))))
          exact da_cons (de_ixc (de_var 2 rfl ⟨_, _, .inl rfl, rfl, da_cons (de_tupleOf T.z_tuple (de_var 6 rfl ⟨_, .inl rfl, da_nil ⟨le1 rfl, fin _⟩⟩))⟩))
        · exact da_cons (de_ixc (de_var 2 rfl ⟨_, _, .inl rfl, rfl, da_cons (de_tupleOf T.z_tuple (de_var 6 rfl ⟨_, .inl rfl, da_nil ⟨le1 rfl, fin _⟩⟩))⟩))
  refine ite2 (fun cc => ?_) (fun cc => ?_)
  · refine dw_and1 (dt_cmp (op_neD hr.units) (de_var 3 rfl (de_dl (dl_lst (da_nil ⟨le1 rfl, rd_neD (shaped_Cs cs) shaped_nilL ⟨_, rfl, ?_⟩⟩)))))
    rw [eqv_Cs]
    refine ite2 (fun ce => ?_) (fun ce => dss_nil rest)
    have hne : 0 < cs.length := by cases cs with | nil => cases ce | cons => exact Nat.succ_pos _
    refine dss_cons (ds_ret (de_op op_catA (de_tup (da_cons (de_str (da_nil ⟨le1 rfl, ?_⟩))))))
    refine de_ix (de_var 3 rfl (de_callK 0 (has_draw T (lv := 0)) hr (by omega) rfl (da_cons (de_len T.z_len (de_var 3 rfl ⟨_, .inl rfl, da_nil ⟨_, rfl, by rw [List.length_map]; omega, fun z1 h0 h1 => ?_⟩⟩)))))
    obtain ⟨kn, rfl⟩ := nat_of h0
    rw [List.length_map] at h1
    have hk : kn < cs.length := by omega
    have hg : cs[kn]? = some cs[kn] := List.getElem?_eq_getElem hk
    refine ⟨_, _, encC cs[kn], .inl rfl, rfl, atI_c (by rw [List.getElem?_map, hg]; rfl), rd_catT (le1 rfl) ?_⟩
    exact q (.call cs[kn].1 cs[kn].2) trivial (by show 1 ≤ Term.deeps ps + 1; omega) (by show 1 ≤ Term.putss ps + 1; omega) (hQ _ (List.mem_of_getElem? hg))
  · exact dss_nil rest
theorem has_changed (T : Tx K mg) : ∀ n, Has P w K mg base "_law_changed" (n + 3) pChanged (spK (F_changed n))
  | 0 => ok_changed T fun m h => by omega
  | n + 1 => ok_changed T fun m h => by
    have e : m = n := by omega
    subst e
    exact has_changed T m
end
end WK

set_option Elab.async false
set_option linter.all false
set_option maxRecDepth 100000
set_option maxHeartbeats 4000000
namespace WK
open PySem PySem.Spec PyProof.Rows L2 DL TM
mutual
theorem bareT_ok : ∀ t : Term, t.ok → (bareT t).ok ∧ (bareT t).deep = t.deep
  | .call m b, _ => by rw [bareT]; exact ⟨trivial, rfl⟩
  | .put n k a ps, h => by
    obtain ⟨h1, h2, h3⟩ := bareTs_ok ps h.2.2
    rw [bareT]
    exact ⟨⟨h.1, by rw [h3]; exact h.2.1, h1⟩, by show Term.deeps _ + 1 = Term.deeps _ + 1; rw [h2]⟩
theorem bareTs_ok : ∀ t : List Term, Term.oks t → Term.oks (bareTs t) ∧ Term.deeps (bareTs t) = Term.deeps t ∧ (bareTs t).length = t.length
  | [], _ => by rw [bareTs]; exact ⟨trivial, rfl, rfl⟩
  | t :: ts, h => by
    obtain ⟨h1, h2⟩ := bareT_ok t h.1
    obtain ⟨h3, h4, h5⟩ := bareTs_ok ts h.2
    rw [bareTs]
    exact ⟨⟨h1, h3⟩, by show max _ _ = max _ _; rw [h2, h4], by rw [List.length_cons, List.length_cons, h5]⟩
end
theorem getElem_snoc {α : Type} {l : List α} {a b : α} {j : Nat} (h : (l ++ [a])[j]? = some b) : l[j]? = some b ∨ (j = l.length ∧ b = a) := by
  by_cases hj : j < l.length
  · rw [List.getElem?_append_left hj] at h; exact .inl h
  · rw [List.getElem?_append_right (by omega)] at h
    have : j - l.length = 0 := by
      have := (List.getElem?_eq_some_iff.mp h).1
      simp at this; omega
    rw [this] at h
    simp at h
    exact .inr ⟨by omega, h.symm⟩
/-- calls of kinds on branches -/
def QK (KS ks : List Str) (m b : Nat) : Prop := ∃ k, KS[m]? = some k ∧ ks[b]? = some k
structure ModeGood (KS : List Str) (wd : Wood) (md : Mode) : Prop where
  kind : md.1 ∈ kinds wd
  len : md.2.length = (rowsOf wd md.1).length
  rule : ∀ (j : Nat) r t, (rowsOf wd md.1)[j]? = some r → md.2[j]? = some t → t.ok ∧ t.deep ≤ 3 ∧ t.puts ≤ 9 ∧ t.calls (QK KS r.2)
theorem wf_of {wd : Wood} {st : Term} {ms : List Mode} {KS : List Str} (W : GoodWood wd) (h1 : ms.map (·.1) = KS) (h2 : KS.length ≤ 4) (h3 : ∀ md ∈ ms, ModeGood KS wd md) : WF ⟨wd, st, ms⟩ := by
  refine ⟨W, ?_, fun md h => (h3 md h).kind, fun md h => (h3 md h).len, fun md h i r t e1 e2 => ?_⟩
  · show ms.length ≤ 4
    rw [← h1, List.length_map] at h2
    exact h2
  · obtain ⟨q1, q2, q3, q4⟩ := (h3 md h).rule i r t e1 e2
    refine ⟨q1, q2, q3, Term.calls_imp (fun m b hq => ?_) t q4⟩
    obtain ⟨k, k1, k2⟩ := hq
    rw [← h1, List.getElem?_map] at k1
    obtain ⟨md', k3, rfl⟩ := Option.map_eq_some_iff.mp k1
    exact ⟨md', k3, k2⟩
section
variable {P : Program} {w : World} {K : PySem.W.Frag} {mg : Str → Option Value} {base : Heap}
/-! ### _law_rule -/
def F_rule : List PyData → (PyData → Prop) → Prop := fun ds Ψ => ∃ (c : Nat) (b : Term) (cs : List (Nat × Nat)) (Q : Nat → Nat → Prop), ds = [.int ((c : Nat) : Int), encT b, .list (cs.map encC)] ∧ b.ok ∧ b.deep ≤ 3 ∧ b.puts ≤ 9 ∧ b.calls (fun _ _ => False) ∧ cs.length ≤ 16 ∧ (∀ x ∈ cs, Q x.1 x.2) ∧
  ∀ t : Term, t.ok → t.deep ≤ 3 → t.puts ≤ 9 → t.calls Q → Ψ (encT t)
abbrev sRule : Stmt := topS 40
abbrev pRule : List Str := ["_law_deck", "_law_code", "_law_base", "_law_calls_here"]
abbrev nRule : List Str := ["_law_deck", "_law_code", "_law_base", "_law_calls_here", "_law_way"]
theorem scRule : FnScope nRule pRule (defScope sRule) := ⟨rfl, rfl, rfl, by decide +kernel, rfl, by decide +kernel, by decide +kernel⟩
theorem has_rule (T : Tx K mg) : Has P w K mg base "_law_rule" 7 pRule (spK F_rule) := hasOf T.d_law_rule fun f fd Fn => by
  refine okK Fn scRule (fun ds Ψ h => by obtain ⟨_, _, _, _, rfl, _⟩ := h; rfl) fun cdv A outer s H E hr ds Ψ h => ?_
  obtain ⟨c, b, cs, Q, rfl, ok, hd, hp, hc, hl, hQ, q⟩ := h
  refine dss_cons (ds_set 4 (de_callK 0 (has_draw T (lv := 0)) hr (by omega) rfl (da_cons (de_int (da_nil ⟨_, rfl, by decide, fun z h0 h1 => ?_⟩)))) scRule.nd)
  refine dss_cons (ds_if (dt_cmp op_eq (de_var 4 rfl (de_int (rd_eqI ⟨_, rfl, ?_⟩)))))
  refine ite2 (fun cc => dss_cons (ds_ret (de_var 2 rfl (q b ok hd hp (Term.calls_imp (fun _ _ z => z.elim) b hc))))) (fun cc => ?_)
  refine dss_nil (dss_cons (ds_if (dt_cmp op_eq (de_var 4 rfl (de_int (rd_eqI ⟨_, rfl, ?_⟩))))))
  refine ite2 (fun cc => ?_) (fun cc => ?_)
  · refine dss_cons (ds_ret (de_callK 0 (has_changed T 3) hr (by omega) rfl (da_cons (de_var 1 rfl (da_cons (de_var 2 rfl (da_cons (de_var 3 rfl (da_nil ⟨c, b, cs, Q, rfl, ok, hd, hc, hl, hQ, fun t o1 o2 o3 o4 => ?_⟩)))))))))
    exact q t o1 (by omega) (by omega) o4
  · refine dss_nil (dss_cons (ds_ret (de_callK 0 (has_term T 2) hr (by omega) rfl (da_cons (de_var 1 rfl (da_cons (de_var 3 rfl (da_cons (de_int (da_nil ⟨c, cs, 2, Q, rfl, by decide, by decide, hl, hQ, fun t o1 o2 o3 o4 => ?_⟩))))))))))
    exact q t o1 o2 o3 o4
/-! ### _law_turning -/
def F_turning : List PyData → (PyData → Prop) → Prop := fun ds Ψ => ∃ (c : Nat) (wd : Wood), ds = [.int ((c : Nat) : Int), encWood wd] ∧ GoodWood wd ∧ ∀ T : Turning, T.wood = wd → WF T → T.modes ≠ [] → T.start.ok → T.start.deep ≤ 2 → Ψ (encTurning T)
abbrev sTurning : Stmt := topS 41
abbrev pTurning : List Str := ["_law_deck", "_law_code", "_law_wood_here"]
abbrev nTurning : List Str := ["_law_deck", "_law_code", "_law_wood_here", "_law_kinds", "_law_k", "_law_modes", "_law_kind", "_law_base", "_law_rules", "_law_name_here", "_law_branches", "_law_start"]
theorem scTurning : FnScope nTurning pTurning (defScope sTurning) := ⟨rfl, rfl, rfl, by decide +kernel, rfl, by decide +kernel, by decide +kernel⟩
theorem has_turning (T : Tx K mg) : Has P w K mg base "_law_turning" 8 pTurning (spK F_turning) := hasOf T.d_law_turning fun f fd Fn => by
  refine okK Fn scTurning (fun ds Ψ h => by obtain ⟨_, _, rfl, _⟩ := h; rfl) fun cdv A outer s H E hr ds Ψ h => ?_
  obtain ⟨c, wd, rfl, W, q⟩ := h
  obtain ⟨p0, hw0⟩ : ∃ p0, wd[0]? = some p0 := by
    cases wd with
    | nil => exact absurd rfl W.few.2
    | cons p0 _ => exact ⟨p0, rfl⟩
  have hk0 : p0.1 ∈ kinds wd := List.mem_map.mpr ⟨p0, List.mem_of_getElem? hw0, rfl⟩
  have hw0' : (wd.map encKind)[0]? = some (encKind p0) := by rw [List.getElem?_map, hw0]; rfl
  have wl : wd.length ≤ 1000 := Nat.le_trans W.few.1 (by decide)
  have wpos : 0 < wd.length := List.length_pos_iff.mpr W.few.2
  refine dss_cons (ds_own 3 (dl_lst (da_cons (de_ixc (de_ixc (de_var 2 rfl ⟨_, _, .inr rfl, hw0', _, _, .inl rfl, rfl, da_nil ⟨le1 rfl, ?_⟩⟩))))) scTurning.nd)
  refine dss_cons (ds_for 4 (di_range T.z_range (de_callK 0 (has_draw T (lv := 0)) hr (by omega) rfl (da_cons (de_int (da_nil ⟨_, rfl, by decide, fun zz h0 h1 => ?_⟩))))) scTurning.nd PassesOwn.never)
  obtain ⟨jn, rfl⟩ := nat_of h0
  have hjn : jn ≤ 3 := by omega
  refine ⟨_, rfl, by omega, ?_⟩
  refine ⟨fun i δ' => ∃ (KS : List Str) (x : Sl), KS.length = i + 1 ∧ (∀ k ∈ KS, k ∈ kinds wd) ∧ δ' = [.dk, .dt (.int ((c : Nat) : Int)), .dt (encWood wd), .ow (KS.map encStr), x, .no, .no, .no, .no, .no, .no, .no],
    ⟨[p0.1], _, rfl, fun k hk => by rw [List.mem_singleton] at hk; rw [hk]; exact hk0, rfl⟩, fun i d δ' e hP => ?_, fun δ' hP => ?_⟩
  · obtain ⟨KS, x, k1, k2, rfl⟩ := hP
    obtain ⟨hi, rfl⟩ := rngD_get e
    refine dss_cons (ds_append 3 rfl (by rw [List.length_map]; omega) (de_ixc (de_ix (de_var 2 rfl (de_callK 0 (has_draw T (lv := 0)) hr (by omega) rfl (da_cons (de_len T.z_len (de_var 2 rfl ⟨_, .inl rfl, da_nil ⟨_, rfl, by rw [List.length_map]; omega, fun z1 h0 h1 => ?_⟩⟩))))))))
    obtain ⟨kn, rfl⟩ := nat_of h0
    rw [List.length_map] at h1
    have hk : kn < wd.length := by omega
    have hg : wd[kn]? = some wd[kn] := List.getElem?_eq_getElem hk
    refine ⟨_, _, encKind wd[kn], .inl rfl, rfl, atI_c (by rw [List.getElem?_map, hg]; rfl), _, _, .inl rfl, rfl, dss_nil ⟨KS ++ [wd[kn].1], .dt (.int ((i : Nat) : Int)), by rw [List.length_append, k1]; rfl, fun k hk2 => ?_, by rw [List.map_append]; rfl⟩⟩
    rcases List.mem_append.mp hk2 with h | h
    · exact k2 k h
    · rw [List.mem_singleton] at h
      rw [h]
      exact List.mem_map.mpr ⟨_, List.mem_of_getElem? hg, rfl⟩
  obtain ⟨KS, x, k1, k2, rfl⟩ := hP
  rw [rngD_len] at k1
  refine dss_frz 3 rfl (dss_cons (ds_own 5 (dl_lst (da_nil ⟨le1 rfl, ?_⟩)) scTurning.nd))
  refine dss_cons (ds_for 6 (di_list (de_var 3 rfl ⟨_, rfl, ?_⟩)) scTurning.nd PassesOwn.never)
  refine ⟨fun i δ' => ∃ (ms : List Mode) (y1 y2 y3 y4 y5 : Sl), ms.map (·.1) = KS.take i ∧ (∀ md ∈ ms, ModeGood KS wd md) ∧
    δ' = [.dk, .dt (.int ((c : Nat) : Int)), .dt (encWood wd), .dt (.list (KS.map encStr)), x, .ow (ms.map encMode), y1, y2, y3, y4, y5, .no],
    ⟨[], _, _, _, _, _, rfl, fun md h => by simp at h, rfl⟩, fun i d δ' e hP => ?_, fun δ' hP => ?_⟩
  · obtain ⟨ms, y1, y2, y3, y4, y5, g1, g2, rfl⟩ := hP
    rw [List.getElem?_map] at e
    obtain ⟨k, hk, rfl⟩ := Option.map_eq_some_iff.mp e
    have mk := k2 k (List.mem_of_getElem? hk)
    have hiK : i < KS.length := (List.getElem?_eq_some_iff.mp hk).1
    have hml : ms.length = i := by
      have := congrArg List.length g1
      rw [List.length_map, List.length_take] at this
      omega
    refine dss_cons (ds_set 7 (de_callK 0 (has_term T 2) hr (by omega) rfl (da_cons (de_var 1 rfl (da_cons (de_dl (dl_lst (da_nil ⟨le1 rfl, ?_⟩))))))) scTurning.nd)
    refine da_cons (de_int (da_nil ⟨c, [], 2, fun _ _ => False, rfl, by decide, by decide, by decide, fun x h => (by simp at h), fun b o1 o2 o3 o4 => ?_⟩))
    refine dss_cons (ds_own 8 (dl_lst (da_nil ⟨le1 rfl, ?_⟩)) scTurning.nd)
    refine dss_cons (ds_for2 9 10 (di_list (de_call (has_rows T (lv := 0)) hr (by omega) (da_cons (de_var 2 rfl (da_cons (de_var 6 rfl (da_nil ⟨wd, k, rfl, wl, mk, _, rfl, ?_⟩))))))) scTurning.nd PassesOwn.never)
    refine ⟨fun j δ' => ∃ (rs : List Term) (y4 y5 : Sl), rs.length = j ∧ (∀ (l : Nat) r t, (rowsOf wd k)[l]? = some r → rs[l]? = some t → t.ok ∧ t.deep ≤ 3 ∧ t.puts ≤ 9 ∧ t.calls (QK KS r.2)) ∧
      δ' = [.dk, .dt (.int ((c : Nat) : Int)), .dt (encWood wd), .dt (.list (KS.map encStr)), x, .ow (ms.map encMode), .dt (.str k), .dt (encT b), .ow (encTs rs), y4, y5, .no],
      ⟨[], _, _, rfl, fun l r t _ h => by simp at h, rfl⟩, fun j d δ' e hP => ?_, fun δ' hP => ?_⟩
    · obtain ⟨rs, y4, y5, r1, r2, rfl⟩ := hP
      rw [List.getElem?_map] at e
      obtain ⟨r, hr1, rfl⟩ := Option.map_eq_some_iff.mp e
      have hjl : j < (rowsOf wd k).length := (List.getElem?_eq_some_iff.mp hr1).1
      have hl3 := W.len k mk
      obtain ⟨w1, w2, w3⟩ := W.row k mk r (List.mem_of_getElem? hr1)
      refine ⟨_, _, rfl, dss_cons (ds_append 8 rfl (by rw [encTs_len]; omega) (de_callK 0 (has_rule T) hr (by omega) rfl (da_cons (de_var 1 rfl (da_cons (de_var 7 rfl ?_))))))⟩
      refine da_cons (de_call (has_calls T (lv := 0)) hr (by omega) (da_cons (de_var 3 rfl (da_cons (de_var 10 rfl (da_nil ⟨KS, r.2, _, by omega, w2, .inr rfl, rfl, fun cs c1 c2 => ?_⟩))))))
      refine da_nil ⟨c, b, cs, QK KS r.2, rfl, o1, o2, o3, o4, c2, c1, fun t t1 t2 t3 t4 => dss_nil ⟨rs ++ [t], _, _, by rw [List.length_append, r1]; rfl, fun l r' t' e1 e2 => ?_, by rw [encTs_app]; rfl⟩⟩
      rcases getElem_snoc e2 with h | ⟨h, rfl⟩
      · exact r2 l r' t' e1 h
      · rw [h, r1, hr1] at e1
        cases e1
        exact ⟨t1, t2, t3, t4⟩
    · obtain ⟨rs, y4, y5, r1, r2, rfl⟩ := hP
      rw [List.length_map] at r1
      refine dss_frz 8 rfl (dss_cons (ds_append 5 rfl (by rw [List.length_map]; omega) (de_tup (da_cons (de_var 6 rfl (da_cons (de_var 8 rfl (da_nil ⟨le1 rfl, dss_nil ?_⟩))))))))
      refine ⟨ms ++ [(k, rs)], _, _, _, y4, y5, ?_, fun md hmd => ?_, by rw [List.map_append]; rfl⟩
      · rw [List.map_append, g1, List.take_add_one, hk]; rfl
      · rcases List.mem_append.mp hmd with h | h
        · exact g2 md h
        · rw [List.mem_singleton] at h
          subst h
          exact ⟨mk, r1, r2⟩
  · obtain ⟨ms, y1, y2, y3, y4, y5, g1, g2, rfl⟩ := hP
    rw [List.length_map, List.take_length] at g1
    refine dss_cons (ds_set 11 (de_callK 0 (has_term T 1) hr (by omega) rfl (da_cons (de_var 1 rfl ?_))) scTurning.nd)
    refine da_cons (de_call (has_calls T (lv := 0)) hr (by omega) (da_cons (de_var 3 rfl (da_cons (de_dl (dl_lst (da_cons (de_ixc (de_ixc (de_var 2 rfl ⟨_, _, .inr rfl, hw0', _, _, .inl rfl, rfl, da_nil ⟨le1 rfl, ?_⟩⟩))))))))))
    refine da_nil ⟨KS, [p0.1], _, by omega, le1 rfl, .inl rfl, rfl, fun cs c1 c2 => ?_⟩
    refine da_cons (de_int (da_nil ⟨c, cs, 1, fun _ _ => True, rfl, by decide, by decide, c2, fun _ _ => trivial, fun st o1 o2 o3 o4 => ?_⟩))
    refine dss_frz 5 rfl (dss_cons (ds_ret (de_tup (da_cons (de_var 2 rfl (da_cons (de_call (has_bare T 2) hr (by omega) (da_cons (de_var 11 rfl (da_nil ⟨st, o1, o2, rfl, ?_⟩))))))))))
    refine da_cons (de_var 5 rfl (da_nil ⟨le1 rfl, ?_⟩))
    obtain ⟨b1, b2⟩ := bareT_ok st o1
    refine q ⟨wd, bareT st, ms⟩ rfl (wf_of W g1 (by omega) g2) (fun z => ?_) b1 (by show (bareT st).deep ≤ 2; rw [b2]; exact o2)
    have z' : ms = [] := z
    rw [z'] at g1
    rw [← g1] at k1
    simp at k1
/-! ### _law_tree -/
def F_tree (n : Nat) : List PyData → (PyData → Prop) → Prop := fun ds Ψ => ∃ (wd : Wood) (k : Str), GoodWood wd ∧ k ∈ kinds wd ∧ 1 ≤ n ∧ ds = [encWood wd, .str k, .int ((n : Nat) : Int)] ∧ ∀ t : TM.Tree, ofKind wd t k → t.ok → t.deep ≤ n → Ψ (encR t)
abbrev sTree : Stmt := topS 49
abbrev pTree : List Str := ["_law_deck", "_law_wood_here", "_law_kind", "_law_deep_here"]
abbrev nTree : List Str := ["_law_deck", "_law_wood_here", "_law_kind", "_law_deep_here", "_law_rows_here", "_law_row", "_law_name_here", "_law_branches", "_law_mark_here", "_law_branch"]
theorem scTree : FnScope nTree pTree (defScope sTree) := ⟨rfl, rfl, rfl, by decide +kernel, rfl, by decide +kernel, by decide +kernel⟩
theorem oksR_app {a b : List TM.Tree} (h1 : TM.Tree.oks a) (h2 : TM.Tree.oks b) : TM.Tree.oks (a ++ b) := TM.Tree.oks_of fun p hp => by
  rcases List.mem_append.mp hp with h | h
  · exact TM.Tree.oks_mem h1 p h
  · exact TM.Tree.oks_mem h2 p h
theorem ok_tree {n : Nat} (T : Tx K mg) (ih : ∀ m, m + 1 = n → Has P w K mg base "_law_tree" (m + 3) pTree (spK (F_tree m))) :
    Has P w K mg base "_law_tree" (n + 3) pTree (spK (F_tree n)) := hasOf T.d_law_tree fun f fd Fn => by
  refine okK Fn scTree (fun ds Ψ h => by obtain ⟨_, _, _, _, _, rfl, _⟩ := h; rfl) fun cdv A outer s H E hr ds Ψ h => ?_
  obtain ⟨wd, k, W, mk, hn, rfl, q⟩ := h
  have wl : wd.length ≤ 1000 := Nat.le_trans W.few.1 (by decide)
  have hl3 := W.len k mk
  refine dss_cons (ds_set 4 (de_call (has_rows T (lv := 0)) hr (by omega) (da_cons (de_var 1 rfl (da_cons (de_var 2 rfl (da_nil ⟨wd, k, rfl, wl, mk, ?_⟩)))))) scTree.nd)
  refine dss_cons (ds_mono (fun δ' => ∃ rs : List TM.Row, rs ≠ [] ∧ rs.length ≤ 3 ∧ (∀ r ∈ rs, r ∈ rowsOf wd k ∧ (n = 1 → r.2 = [])) ∧
    δ' = [.dk, .dt (encWood wd), .dt (.str k), .dt (.int ((n : Nat) : Int)), .dt (.list (rs.map encRow)), .no, .no, .no, .no, .no]) ?_ fun δ' hN => ?_)
  · refine ds_if (dt_cmp op_eq (de_var 3 rfl (de_int (rd_eqI ⟨_, rfl, ?_⟩))))
    refine ite2 (fun cc => ?_) (fun cc => ?_)
    · refine dss_cons (ds_lc 4 5 (blkOk_by (N := nTree) (sc := defScope sTree) (by decide +kernel)) scTree.nd ?_ (sw_true rfl rfl rfl (by decide +kernel)))
      refine di_list (de_var 4 rfl ⟨_, rfl, ?_⟩)
      refine ⟨by rw [List.length_map]; omega, fun i acc => ∃ rs : List TM.Row, acc = rs.map encRow ∧ rs.length ≤ i ∧ (∀ r ∈ rs, r ∈ rowsOf wd k ∧ r.2 = []) ∧ (∀ (j : Nat) r, j < i → (rowsOf wd k)[j]? = some r → r.2 = [] → rs ≠ []), ⟨[], rfl, Nat.zero_le _, fun r h => by simp at h, fun j r h => by omega⟩, fun i d acc e1 e2 => ?_, fun acc e => ?_⟩
      · obtain ⟨rs, rfl, r1, r2, r3⟩ := e2
        rw [List.getElem?_map] at e1
        obtain ⟨r, hr1, rfl⟩ := Option.map_eq_some_iff.mp e1
        have mr := List.mem_of_getElem? hr1
        obtain ⟨w1, w2, w3⟩ := W.row k mk r mr
        intro s1 H0 Cl cl fp
        refine dt_cmp (op_eqD hr.units) (de_ixc (de_var 5 rfl ⟨_, _, .inl rfl, rfl, de_tup (da_nil ⟨le1 rfl, rd_eqD (shaped_strs fun b hb => W.nm b (w3 b hb)) shaped_nil ⟨_, rfl, ?_⟩⟩)⟩))
        rw [eqv_nil]
        refine ite2 (fun c => fun s H0 Cl cl fp => de_var 5 rfl ?_) (fun c => ?_)
        · have hb : r.2 = [] := List.isEmpty_iff.mp c
          refine ⟨rs ++ [r], by rw [List.map_append]; rfl, by rw [List.length_append]; exact Nat.succ_le_succ r1, fun x hx => ?_, fun j x _ _ _ => by simp⟩
          rcases List.mem_append.mp hx with h | h
          · exact r2 x h
          · rw [List.mem_singleton] at h
            rw [h]
            exact ⟨mr, hb⟩
        · refine ⟨rs, rfl, by omega, r2, fun j x hj hx he => ?_⟩
          rcases Nat.lt_or_eq_of_le (Nat.le_of_lt_succ hj) with h | h
          · exact r3 j x h hx he
          · subst h
            rw [hr1] at hx
            cases hx
            exact absurd (List.isEmpty_iff.mpr he) c
      · obtain ⟨rs, rfl, r1, r2, r3⟩ := e
        rw [List.length_map] at r1 r3
        obtain ⟨r, b1, b2⟩ := W.bare k mk
        obtain ⟨j, hj⟩ := List.mem_iff_getElem?.mp b1
        exact dss_frz 4 rfl (dss_nil ⟨rs, r3 j r (List.getElem?_eq_some_iff.mp hj).1 hj b2, by omega, fun r hr => ⟨(r2 r hr).1, fun _ => (r2 r hr).2⟩, rfl⟩)
    · have hn1 : ¬ n = 1 := fun z => cc (decide_eq_true (by rw [z]; rfl))
      obtain ⟨r, b1, b2⟩ := W.bare k mk
      exact dss_nil ⟨rowsOf wd k, (fun z => by rw [z] at b1; cases b1), hl3, fun r hr => ⟨hr, fun z => absurd z hn1⟩, rfl⟩
  · obtain ⟨rs, n1, n2, n3, rfl⟩ := hN
    have rpos : 0 < rs.length := List.length_pos_iff.mpr n1
    refine dss_cons (ds_unpack 6 7 (de_ix (de_var 4 rfl (de_callK 0 (has_draw T (lv := 0)) hr (by omega) rfl (da_cons (de_len T.z_len (de_var 4 rfl ⟨_, .inl rfl, da_nil ⟨_, rfl, by rw [List.length_map]; omega, fun z1 h0 h1 => ?_⟩⟩)))))) scTree.nd)
    obtain ⟨kn, rfl⟩ := nat_of h0
    rw [List.length_map] at h1
    have hk : kn < rs.length := by omega
    have hg : rs[kn]? = some rs[kn] := List.getElem?_eq_getElem hk
    generalize rs[kn] = r at hg
    obtain ⟨m1, m2⟩ := n3 r (List.mem_of_getElem? hg)
    obtain ⟨w1, w2, w3⟩ := W.row k mk r m1
    refine ⟨_, _, encRow r, .inl rfl, rfl, atI_c (by rw [List.getElem?_map, hg]; rfl), _, _, rfl, ?_⟩
    refine dss_cons (ds_set 8 (de_callK 0 (has_mark T (lv := 0)) hr (by omega) rfl (da_nil ⟨rfl, fun mv => ?_⟩)) scTree.nd)
    refine dss_cons (ds_ret (de_tup (da_cons (de_var 6 rfl (da_cons (de_var 8 rfl ?_))))))
    refine da_cons (de_tupleOf T.z_tuple (de_dl (dl_lc 9 (blkOk_by (N := nTree) (sc := defScope sTree) (by decide +kernel)) scTree.nd (di_tup (de_var 7 rfl ⟨_, rfl, ?_⟩)))))
    refine ⟨by rw [List.length_map]; omega, fun i acc => ∃ bs : List TM.Tree, acc = encRs bs ∧ bs.length = i ∧ TM.Tree.oks bs ∧ (∀ b ∈ bs, b.deep + 1 ≤ n) ∧ ∀ (l : Nat) b kk, bs[l]? = some b → r.2[l]? = some kk → ofKind wd b kk, ⟨[], rfl, rfl, trivial, fun b h => by simp at h, fun l b kk h => by simp at h⟩, fun i d acc e1 e2 => ?_, fun acc e => ?_⟩
    · obtain ⟨bs, rfl, b1, b2, b3, b4⟩ := e2
      rw [List.getElem?_map] at e1
      obtain ⟨kk, hkk, rfl⟩ := Option.map_eq_some_iff.mp e1
      have hn2 : 2 ≤ n := by
        by_cases h : n = 1
        · rw [m2 h] at hkk; simp at hkk
        · omega
      intro s1 H0 Cl cl fp
      refine de_callK 0 (ih (n - 1) (by omega)) hr (by omega) rfl (da_cons (de_var 1 rfl (da_cons (de_var 9 rfl (da_cons (de_op op_sub (de_var 3 rfl (de_int (rd_sub ?_)))))))))
      refine da_nil ⟨wd, kk, W, w3 kk (List.mem_of_getElem? hkk), by omega, by rw [show ((n : Nat) : Int) - 1 = ((n - 1 : Nat) : Int) by omega]; rfl, fun t t1 t2 t3 => ?_⟩
      refine ⟨bs ++ [t], by rw [encRs_app]; rfl, by rw [List.length_append, b1]; rfl, oksR_app b2 ⟨t2, trivial⟩, fun b hb => ?_, fun l b k' h1 h2 => ?_⟩
      · rcases List.mem_append.mp hb with h | h
        · exact b3 b h
        · rw [List.mem_singleton] at h
          rw [h]; omega
      · rcases getElem_snoc h1 with h | ⟨h, rfl⟩
        · exact b4 l b k' h h2
        · rw [h, b1, hkk] at h2
          cases h2
          exact t1
    · obtain ⟨bs, rfl, b1, b2, b3, b4⟩ := e
      rw [List.length_map] at b1
      refine ⟨_, .inl rfl, da_nil ⟨le1 rfl, q (.node r.1 mv bs) ⟨r.2, m1, b1.symm, ofKinds_of b4⟩ ⟨w1, by omega, b2⟩ ?_⟩⟩
      show TM.Tree.deeps bs + 1 ≤ n
      have : TM.Tree.deeps bs ≤ n - 1 := TM.Tree.deeps_le fun b hb => by have := b3 b hb; omega
      omega
theorem has_tree (T : Tx K mg) : ∀ n, Has P w K mg base "_law_tree" (n + 3) pTree (spK (F_tree n))
  | 0 => ok_tree T fun m h => by omega
  | n + 1 => ok_tree T fun m h => by
    have e : m = n := by omega
    subst e
    exact has_tree T m
end
end WK

set_option Elab.async false
set_option linter.all false
set_option maxRecDepth 100000
set_option maxHeartbeats 4000000
namespace WK
open PySem PySem.Spec PyProof.Rows L2 DL TM
section
variable {P : Program} {w : World} {K : PySem.W.Frag} {mg : Str → Option Value} {base : Heap}
/-! ### _law_numbers -/
def spN (K : PySem.W.Frag) : Sp := fun vs H Q _ => ∃ (p : Addr) (ns : List Int), vs = [.ref p, .int 1000] ∧ SqL K H p (ns.map V.int) ∧ ∀ (q : Addr) H' (ms : List Int), Same H H' → H' q = some (.lst (ms.map V.int)) → Q (.ref q) H'
abbrev sNumbers : Stmt := topS 31
abbrev pNumbers : List Str := ["_law_script", "_law_most"]
abbrev nNumbers : List Str := ["_law_script", "_law_most", "_law_found", "_law_cell", "_law_number"]
theorem scNumbers : FnScope nNumbers pNumbers (defScope sNumbers) := ⟨rfl, rfl, rfl, by decide +kernel, rfl, by decide +kernel, by decide +kernel⟩
theorem pow59_pos : (0 : Int) < 10 ^ (59 : Int).toNat := Int.pow_pos (by decide)
theorem body_numbers (T : Tx K mg) (f : Addr) (cdv : Value) (A : Around) (outer : List Env) (s : Shared) (H : Hp) (E : XK) (ns : List Int) :
    DSs (cxOf CX0 P w K mg base nNumbers "_law_numbers" (defScope sNumbers) f cdv A outer s H E).nox [.sq ns, .dt (.int 1000), .no, .no, .no] (defBody sNumbers) { nx := fun _ => False, rt := fun d => ∃ ms : List Int, d = .list (ms.map PyData.int) } := by
  refine dss_cons (ds_lc 2 3 (blkOk_by (N := nNumbers) (sc := defScope sNumbers) (by decide +kernel)) scNumbers.nd ?_ (sw_true rfl rfl rfl (by decide +kernel)))
  refine di_list (de_sliceQ 0 rfl (de_var 1 rfl ⟨1000, rfl, _, rfl, ?_⟩))
  have htl : (ns.take 1000).length ≤ 1000 := by rw [List.length_take]; omega
  generalize ns.take 1000 = xs at htl
  refine LcAsk.res ((xs.map fun z => z % 10 ^ (59 : Int).toNat).map PyData.int) (by rw [List.length_map]; omega) (by rw [List.length_map, List.length_map, List.length_map]) (fun j d e s H0 Cl cl fp => ?_) ?_
  · rw [List.getElem?_map] at e
    obtain ⟨z, hz, rfl⟩ := Option.map_eq_some_iff.mp e
    refine de_op op_mod (de_var 3 rfl (de_op op_pow (de_int (de_int (rd_pow (cpow (by decide) (by decide)) (rd_mod pow59_pos ?_))))))
    rw [List.getElem?_map, List.getElem?_map, hz]
    rfl
  have hyl : (xs.map fun z => z % 10 ^ (59 : Int).toNat).length ≤ 1000 := by rw [List.length_map]; exact htl
  generalize (xs.map fun z => z % 10 ^ (59 : Int).toNat) = ys at hyl
  refine dss_cons (ds_set 4 (de_op op_add (de_int (de_op op_mod (de_sumO 2 T.z_sum rfl (de_int (rd_mod (by decide) (rd_add ?_))))))) scNumbers.nd)
  have hz0 : 0 ≤ (48271 : Int) + ys.sum % 2147483647 ∧ (48271 : Int) + ys.sum % 2147483647 < 4294967296 := by omega
  generalize (48271 : Int) + ys.sum % 2147483647 = z at hz0
  refine dss_cons (ds_while (fun m δ' => ∃ (ms : List Int) (z : Int), m = 1000 - ms.length ∧ ms.length ≤ 1000 ∧ 0 ≤ z ∧ z < 4294967296 ∧ δ' = [.sq ns, .dt (.int 1000), .ow (ms.map PyData.int), .no, .dt (.int z)]) _ ⟨ys, z, rfl, hyl, hz0.1, hz0.2, rfl⟩ (fun m δ' hP => ?_) PassesOwn.never)
  obtain ⟨ms, z, rfl, k1, k2, k3, rfl⟩ := hP
  refine dt_cmp op_lt (de_lenO 2 T.z_len rfl (de_var 1 rfl (rd_lt ⟨_, rfl, ?_⟩)))
  rw [List.length_map]
  refine ite2 (fun cc => ?_) (fun cc => ?_)
  · have hlt : ms.length < 1000 := by have := of_decide_eq_true cc; omega
    refine dss_cons (ds_set 4 (de_op op_mod (de_op op_add (de_op op_add (de_op op_mul (de_var 4 rfl (de_var 4 rfl (rd_mul (.inl ⟨by omega, by omega⟩) ?_))))))) scNumbers.nd)
    refine de_op op_mul (de_int (de_var 4 rfl (rd_mul (.inl ⟨by omega, by omega⟩) (rd_add (de_lenO 2 T.z_len rfl (rd_add (de_int (rd_mod (by decide) ?_))))))))
    rw [List.length_map]
    have hb : 0 ≤ (z * z + 48271 * z + (ms.length : Int)) % 2147483647 ∧ (z * z + 48271 * z + (ms.length : Int)) % 2147483647 < 4294967296 := by
      generalize z * z + 48271 * z + (ms.length : Int) = u
      omega
    generalize (z * z + 48271 * z + (ms.length : Int)) % 2147483647 = u at hb
    refine dss_cons (ds_append 2 rfl (by rw [List.length_map]; omega) (de_var 4 rfl (dss_nil ⟨_, ?_, ms ++ [u], u, rfl, ?_, hb.1, hb.2, by rw [List.map_append]; rfl⟩)))
    · rw [List.length_append, List.length_singleton]; omega
    · rw [List.length_append, List.length_singleton]; omega
  · refine dss_frz 2 rfl (dss_cons (ds_ret (de_listRev T.z_list T.z_reversed (de_var 2 rfl ⟨_, rfl, ms.reverse, ?_⟩))))
    rw [List.map_reverse]
theorem has_numbers (T : Tx K mg) {lv : Nat} : Has P w K mg base "_law_numbers" (lv + 1) pNumbers (spN K) := hasOf T.d_law_numbers fun f fd Fn => by
  refine Fn.ok scNumbers (fun vs H Q E h => ?_) (fun cdv A outer s H vs Q E hr h => ?_)
  · obtain ⟨_, _, rfl, _⟩ := h
    rfl
  · obtain ⟨p, ns, rfl, hp, q⟩ := h
    refine ⟨_, pss_tSs, ?_⟩
    have kS : Same H (Kn (fun _ => False) H) := fun b o e => kn_some.mpr ⟨fun z => z, e⟩
    refine body_numbers T f cdv A outer s H E ns ⟨H, fun _ => False, fun _ => False⟩ (fun _ => False) _ H _ ⟨rfl, fun i v s h3 h4 => ?_, fun i j p s u h3 h4 h5 h6 h7 h8 => ?_, fun b hb => hb.elim, fun b hb => hb, fun b o e _ => e, fun b hb => hb.elim, fun b hb => hb⟩ ⟨?_, ?_, ?_, ?_⟩
    · match i, h3, h4 with
      | 0, h3, h4 => cases h3; cases h4; exact ⟨p, rfl, same_sq kS hp⟩
      | 1, h3, h4 => cases h3; cases h4; exact ⟨_, rfl, .int _⟩
      | 2, h3, h4 => cases h4; trivial
      | 3, h3, h4 => cases h4; trivial
      | 4, h3, h4 => cases h4; trivial
      | n + 5, h3, h4 => cases h4
    · match i, h5 with
      | 0, h5 => cases h5; cases h7
      | 1, h5 => cases h5; cases h7
      | 2, h5 => cases h5; cases h7
      | 3, h5 => cases h5; cases h7
      | 4, h5 => cases h5; cases h7
      | n + 5, h5 => cases h5
    · intro S' σ' H' δ' z; exact z.elim
    · intro v H' d hd r hv
      obtain ⟨ms, rfl⟩ := hd
      obtain ⟨a, xs, rfl, g1, g2⟩ := hv.lst_inv
      rw [Dds.ints_inv g2] at g1
      exact q a H' ms (fun b o e => r.keep b o e fun z => z) (kn_some.mp g1).2
    · intro S' σ' H' δ' z; exact z.elim
    · intro S' σ' H' δ' z; exact z.elim
end
end WK

set_option Elab.async false
set_option linter.all false
set_option maxRecDepth 100000
set_option maxHeartbeats 4000000
namespace TM
open PySem
theorem layAll {n : Nat} : ∀ {l : List PyData}, (∀ d ∈ l, d.canLay0 = true ∧ d.depth ≤ n) → PyData.canLayAll0 l = true ∧ PyData.depthAll l ≤ n
  | [], _ => by simp [PyData.canLayAll0, PyData.depthAll]
  | d :: l, h => by
    obtain ⟨h1, h2⟩ := h d List.mem_cons_self
    obtain ⟨h3, h4⟩ := layAll (l := l) fun x hx => h x (List.mem_cons_of_mem _ hx)
    refine ⟨?_, ?_⟩
    · simp only [PyData.canLayAll0, h1, h3, Bool.and_true]
    · simp only [PyData.depthAll]; omega
theorem lay_str {k : Str} (h : PyData.strOk k = true) : (PyData.str k).canLay0 = true ∧ (PyData.str k).depth ≤ 0 := ⟨by rw [PyData.canLay0]; exact h, by rw [PyData.depth]; exact Nat.le_refl _⟩
theorem lay_tup {n : Nat} {l : List PyData} (h : ∀ d ∈ l, d.canLay0 = true ∧ d.depth ≤ n) : (PyData.tuple l).canLay0 = true ∧ (PyData.tuple l).depth ≤ n + 1 := by
  obtain ⟨h1, h2⟩ := layAll h
  exact ⟨by rw [PyData.canLay0]; exact h1, by rw [PyData.depth]; omega⟩
theorem lay_lst {n : Nat} {l : List PyData} (h : ∀ d ∈ l, d.canLay0 = true ∧ d.depth ≤ n) : (PyData.list l).canLay0 = true ∧ (PyData.list l).depth ≤ n + 1 := by
  obtain ⟨h1, h2⟩ := layAll h
  exact ⟨by rw [PyData.canLay0]; exact h1, by rw [PyData.depth]; omega⟩
theorem lay_up {n m : Nat} {d : PyData} (h : d.canLay0 = true ∧ d.depth ≤ n) (l : n ≤ m) : d.canLay0 = true ∧ d.depth ≤ m := ⟨h.1, Nat.le_trans h.2 l⟩
mutual
theorem encT_lay : ∀ t : Term, t.ok → (encT t).canLay0 = true ∧ (encT t).depth ≤ 2 * t.deep
  | .call m b, _ => by
    refine ⟨?_, ?_⟩
    · simp only [encT, PyData.canLay0, PyData.canLayAll0, strOk_call, Bool.and_true]
    · simp only [encT, PyData.depth, PyData.depthAll, Term.deep]; omega
  | .put n k a ps, h => by
    obtain ⟨q1, q2⟩ := encTs_lay ps h.2.2
    refine ⟨?_, ?_⟩
    · simp only [encT, PyData.canLay0, PyData.canLayAll0, strOk_put, h.1, q1, Bool.and_true]
    · simp only [encT, PyData.depth, PyData.depthAll, Term.deep]; omega
theorem encTs_lay : ∀ t : List Term, Term.oks t → PyData.canLayAll0 (encTs t) = true ∧ PyData.depthAll (encTs t) ≤ 2 * Term.deeps t
  | [], _ => by simp [encTs, PyData.canLayAll0, PyData.depthAll]
  | t :: ts, h => by
    obtain ⟨q1, q2⟩ := encT_lay t h.1
    obtain ⟨q3, q4⟩ := encTs_lay ts h.2
    refine ⟨?_, ?_⟩
    · simp only [encTs, PyData.canLayAll0, q1, q3, Bool.and_true]
    · simp only [encTs, PyData.depthAll, Term.deeps]; omega
end
theorem lay_row {Ks : List Str} (hK : ∀ k ∈ Ks, PyData.strOk k = true) {rows : List Row} (h : RowsGood Ks rows) : (encRows rows).canLay0 = true ∧ (encRows rows).depth ≤ 3 := by
  refine lay_lst (n := 2) fun d hd => ?_
  obtain ⟨r, hr, rfl⟩ := List.mem_map.mp hd
  obtain ⟨h1, h2, h3⟩ := h.row r hr
  refine lay_tup (n := 1) fun d hd => ?_
  rcases List.mem_cons.mp hd with rfl | hd
  · exact lay_up (lay_str h1) (by decide)
  · rw [List.mem_singleton] at hd
    subst hd
    refine lay_tup (n := 0) fun d hd => ?_
    obtain ⟨b, hb, rfl⟩ := List.mem_map.mp hd
    exact lay_str (hK b (h3 b hb))
theorem shaped_T {T : Turning} (W : WF T) (hw : ∀ p ∈ T.wood, p.1 ∈ kinds T.wood ∧ RowsGood (kinds T.wood) p.2) (h1 : T.start.ok) (h2 : T.start.deep ≤ 2) : SeqAt.shaped (encTurning T) = true := by
  have key : (encTurning T).canLay0 = true ∧ (encTurning T).depth ≤ 20 := by
    refine lay_tup (n := 19) fun d hd => ?_
    rcases List.mem_cons.mp hd with rfl | hd
    · refine lay_up (lay_lst (n := 4) fun d hd => ?_) (by decide)
      obtain ⟨p, hp, rfl⟩ := List.mem_map.mp hd
      obtain ⟨g1, g2⟩ := hw p hp
      refine lay_tup (n := 3) fun d hd => ?_
      rcases List.mem_cons.mp hd with rfl | hd
      · exact lay_up (lay_str (W.wood.nm _ g1)) (by decide)
      · rw [List.mem_singleton] at hd
        subst hd
        exact lay_row W.wood.nm g2
    · rcases List.mem_cons.mp hd with rfl | hd
      · exact lay_up (encT_lay _ h1) (by omega)
      · rw [List.mem_singleton] at hd
        subst hd
        refine lay_up (lay_lst (n := 9) fun d hd => ?_) (by decide)
        obtain ⟨md, hmd, rfl⟩ := List.mem_map.mp hd
        refine lay_tup (n := 8) fun d hd => ?_
        rcases List.mem_cons.mp hd with rfl | hd
        · exact lay_up (lay_str (W.wood.nm _ (W.kind md hmd))) (by decide)
        · rw [List.mem_singleton] at hd
          subst hd
          refine lay_lst (n := 7) fun d hd => ?_
          rw [encTs_map] at hd
          obtain ⟨t, ht, rfl⟩ := List.mem_map.mp hd
          obtain ⟨i, r, _, _, hr⟩ := WF.ruleRow W hmd ht
          exact lay_up (encT_lay t hr.ok) (by have := hr.deep; omega)
  exact (shaped_iff _).mpr ⟨key.1, by omega⟩
end TM
namespace WK
open PySem PySem.Spec PyProof.Rows L2 DL TM
section
variable {P : Program} {w : World} {K : PySem.W.Frag} {mg : Str → Option Value} {base : Heap}
/-! ### law -/
def spLaw (K : PySem.W.Frag) : Sp := fun vs H Q _ => ∃ (a : Addr) (ns : List Int), vs = [.ref a] ∧ SqL K H a (ns.map V.int) ∧ ns.length ≤ 63 ∧ ∀ H', Q (.bl true) H'
abbrev sLaw : Stmt := topS 56
abbrev nLaw : List Str := ["_law_script", "_law_deck", "_law_code", "_law_turning_here", "_law_handed", "_law_found", "_law_mode", "_law_k", "_law_tree_here", "_law_place"]
theorem scLaw : FnScope nLaw ["_law_script"] (defScope sLaw) := ⟨rfl, rfl, rfl, by decide +kernel, rfl, by decide +kernel, by decide +kernel⟩
theorem body_law (T : Tx K mg) (f : Addr) (cdv : Value) (A : Around) (outer : List Env) (s : Shared) (H : Hp) (E : XK) (hr : Room 90 (A.deeper (envOfC "law" (defScope sLaw) s.heap.objs.size f cdv))) :
    DSs (cxOf CX0 P w K mg base nLaw "law" (defScope sLaw) f cdv A outer s H E).nox [.no, .dk, .no, .no, .no, .no, .no, .no, .no, .no] ((defBody sLaw).drop 1) { nx := fun _ => False, rt := fun d => d = .bool true } := by
  refine dss_cons (ds_set 2 (de_callK 1 (has_draw T (lv := 0)) hr (by omega) rfl (da_cons (de_op op_pow (de_int (de_int (rd_pow (cpow (by decide) (by decide)) (da_nil ⟨_, rfl, Int.pow_pos (by decide), fun z h0 _ => ?_⟩))))))) scLaw.nd)
  obtain ⟨c, rfl⟩ := nat_of h0
  refine dss_cons (ds_set 3 (de_callK 1 (has_turning T) hr (by omega) rfl (da_cons (de_var 2 rfl (da_cons (de_callK 1 (has_wood T (lv := 0)) hr (by omega) rfl (da_cons (de_var 2 rfl (da_nil ⟨c, rfl, fun wd Wd hwd => ?_⟩)))))))) scLaw.nd)
  refine da_nil ⟨c, wd, rfl, Wd, fun t ew W hne hs1 hs2 => ?_⟩
  subst ew
  have wl : t.wood.length ≤ 1000 := Nat.le_trans Wd.few.1 (by decide)
  have ml := W.few
  refine dss_cons (ds_set 4 (de_call (has_copy T (lv := 0)) hr (by omega) (da_cons (de_var 3 rfl (da_nil ⟨t, wl, by omega, rfl, ?_⟩)))) scLaw.nd)
  refine dss_cons (ds_set 5 (de_call (has_commons T) hr (by omega) (da_cons (de_var 4 rfl (da_nil ⟨t, W, rfl, fun N hN hfix hmin => ?_⟩)))) scLaw.nd)
  refine dss_cons (ds_if (dt_of (dw_or (dt_not (dt_val (de_isi T.z_isinstance T.z_list bt_list (de_var 5 rfl ⟨true, kb_list, true, rfl, ?_⟩)))))))
  refine iteF (dw_or1 (dt_cmp op_ne (de_len T.z_len (de_var 5 rfl ⟨_, .inl rfl, de_len T.z_len (de_ixc (de_var 3 rfl ⟨_, _, .inl rfl, rfl, _, .inl rfl, rd_neI ⟨_, rfl, ?_⟩⟩))⟩))))
  have el : (!decide ((((encSs (lev t N)).length : Nat) : Int) = (((t.modes.map encMode).length : Nat) : Int))) = false := by
    rw [encSs_len, List.length_map, lev_len W N, decide_eq_true rfl]; rfl
  rw [el]
  refine iteF (dss_nil (dss_cons (ds_for 6 (di_range T.z_range (de_len T.z_len (de_ixc (de_var 3 rfl ⟨_, _, .inl rfl, rfl, _, .inl rfl, _, rfl, by rw [List.length_map]; omega, ?_⟩)))) scLaw.nd PassesOwn.never)))
  refine ⟨fun i δ' => ∃ x y z u : Sl, δ' = [.no, .dk, .dt (.int ((c : Nat) : Int)), .dt (encTurning t), .dt (encTurning t), .dt (.list (encSs (lev t N))), x, y, z, u], ⟨_, _, _, _, rfl⟩, fun m d δ' e hP => ?_, fun δ' hP => ?_⟩
  · obtain ⟨x, y, z, u, rfl⟩ := hP
    obtain ⟨hm0, rfl⟩ := rngD_get e
    rw [List.length_map] at hm0
    have hm : t.modes[m]? = some t.modes[m] := List.getElem?_eq_getElem hm0
    generalize t.modes[m] = md at hm
    have mm := List.mem_of_getElem? hm
    have mk := W.kind md mm
    obtain ⟨sm, hs⟩ : ∃ sm, (lev t N)[m]? = some sm := by
      have : m < (lev t N).length := by rw [lev_len W]; exact hm0
      exact ⟨_, List.getElem?_eq_getElem this⟩
    obtain ⟨s1, s2⟩ := lev_ok W N sm (List.mem_of_getElem? hs)
    have hs' : L2.atI (encSs (lev t N)) ((m : Nat) : Int) = some (encS sm) := atI_c (by rw [encSs_get, hs]; rfl)
    refine dss_cons (ds_if (dt_not (dt_val (de_call (has_isStump T 3) hr (by omega) (da_cons (de_ix (de_var 5 rfl (de_var 6 rfl ⟨_, _, encS sm, .inl rfl, rfl, hs', da_nil ⟨sm, rfl, s1, s2, by decide, true, rfl, ?_⟩⟩))))))))
    refine iteF (dss_nil (dss_cons (ds_for 7 (di_range T.z_range (de_int ⟨6, rfl, by decide, ?_⟩)) scLaw.nd PassesOwn.never)))
    refine ⟨fun i δ' => ∃ y z : Sl, δ' = [.no, .dk, .dt (.int ((c : Nat) : Int)), .dt (encTurning t), .dt (encTurning t), .dt (.list (encSs (lev t N))), .dt (.int ((m : Nat) : Int)), y, z, u], ⟨_, _, rfl⟩, fun i d δ' e hP => ?_, fun δ' hP => ?_⟩
    · obtain ⟨y, z, rfl⟩ := hP
      obtain ⟨hi, rfl⟩ := rngD_get e
      refine dss_cons (ds_set 8 (de_callK 1 (has_tree T (1 + i % 3)) hr (by omega) rfl (da_cons (de_ixc (de_var 3 rfl ⟨_, _, .inl rfl, rfl, ?_⟩)))) scLaw.nd)
      refine da_cons (de_ixc (de_ix (de_ixc (de_var 3 rfl ⟨_, _, .inl rfl, rfl, de_var 6 rfl ⟨_, _, encMode md, .inl rfl, rfl, atI_c (by rw [List.getElem?_map, hm]; rfl), _, _, .inl rfl, rfl, ?_⟩⟩))))
      refine da_cons (de_op op_add (de_int (de_op op_mod (de_var 7 rfl (de_int (rd_mod (by decide) (rd_add ?_)))))))
      refine da_nil ⟨t.wood, md.1, Wd, mk, by omega, by rw [show (1 : Int) + ((i : Nat) : Int) % 3 = ((1 + i % 3 : Nat) : Int) by omega], fun tr k1 k2 k3 => ?_⟩
      obtain ⟨s', q1, q2⟩ := begins_all W (show next t (lev t N) = lev t N from hfix) tr m md hm k1
      rw [hs] at q1
      cases q1
      refine dss_cons (ds_if (dt_not (dt_val (de_call (has_begins T 3) hr (by omega) (da_cons (de_ix (de_var 5 rfl (de_var 6 rfl ⟨_, _, encS sm, .inl rfl, rfl, hs', ?_⟩))))))))
      refine da_cons (de_call (has_made T 3) hr (by omega) (da_cons (de_var 3 rfl (da_cons (de_var 6 rfl (da_cons (de_var 8 rfl (da_nil ⟨t, m, md, tr, W, hm, k1, by omega, rfl, ?_⟩))))))))
      refine da_nil ⟨sm, out t tr m, rfl, s1, s2, q2, true, rfl, ?_⟩
      exact iteF (dss_nil (dss_nil ⟨_, _, rfl⟩))
    · obtain ⟨y, z, rfl⟩ := hP
      have opn := opens_few W N hs
      refine dss_cons (ds_for 9 (di_list (de_call (has_lopens T 3) hr (by omega) (da_cons (de_ix (de_var 5 rfl (de_var 6 rfl ⟨_, _, encS sm, .inl rfl, rfl, hs', da_nil ⟨sm, rfl, s1, s2, by omega, by omega, _, rfl, ?_⟩⟩)))))) scLaw.nd PassesOwn.never)
      refine ⟨fun i δ' => ∃ u : Sl, δ' = [.no, .dk, .dt (.int ((c : Nat) : Int)), .dt (encTurning t), .dt (encTurning t), .dt (.list (encSs (lev t N))), .dt (.int ((m : Nat) : Int)), y, z, u], ⟨_, rfl⟩, fun i d δ' e hP => ?_, fun δ' hP => ?_⟩
      · obtain ⟨u, rfl⟩ := hP
        rw [List.getElem?_map] at e
        obtain ⟨p, hp, rfl⟩ := Option.map_eq_some_iff.mp e
        refine dss_cons (ds_if (dt_not (dt_val (de_call (has_partOf T 38) hr (by omega) (da_cons (de_var 3 rfl (da_cons (de_var 6 rfl ?_))))))))
        refine da_cons (de_call (has_split T) hr (by omega) (da_cons (de_var 4 rfl (da_cons (de_var 6 rfl (da_cons (de_var 9 rfl (da_nil ?_))))))))
        refine ⟨t, m, N, p, md, sm, W, hN, hfix, hmin, hm, hs, List.mem_of_getElem? hp, rfl, fun tree L hL hU => ?_⟩
        have bare := Wd.bare md.1 mk
        obtain ⟨o1, o2⟩ := leaf_ok Wd mk
        obtain ⟨md', e1, e2⟩ := hU.kind
        rw [hm] at e1
        cases e1
        obtain ⟨L2, e3, e4⟩ := hU.lab
        refine da_cons (de_var 9 rfl (da_nil ⟨t, m, md, leafOf t.wood md.1, tree, p, L, L2, W, hm, leaf_ofKind bare, e2, o1, hU.ok, by omega, hU.deep, hL, e3, fun z => e4 z.symm, rfl, true, rfl, ?_⟩))
        exact iteF (dss_nil (dss_nil ⟨_, rfl⟩))
      · obtain ⟨u, rfl⟩ := hP
        exact dss_nil ⟨_, _, _, _, rfl⟩
  · obtain ⟨x, y, z, u, rfl⟩ := hP
    have sh := shaped_T W hwd hs1 hs2
    refine dss_cons (ds_ret (de_cmp (op_eqD hr.units) (de_var 4 rfl (de_var 3 rfl (rd_eqD sh sh ?_)))))
    rw [SeqAt.eqv_refl _ ((shaped_iff _).mp sh).1]
theorem ok_law (T : Tx K mg) {e : Addr} {ed : FuncData} (Fn : Fun K "law" "law" sLaw e ed) : FnOk P w K mg base CX0 91 e ed ["_law_script"] (spLaw K) := by
  refine Fn.ok scLaw (fun vs H Q E h => ?_) (fun cdv A outer s H vs Q E hr h => ?_)
  · obtain ⟨a, ns, rfl, _⟩ := h
    rfl
  obtain ⟨a, ns, rfl, hS, h63, q⟩ := h
  obtain ⟨f, fd, G1, G2, G3, G4⟩ := (has_numbers (P := P) (w := w) (base := base) T (lv := 0)).ex
  refine ⟨_, pss_cons (ps_set (i := 1) scLaw.nd rfl (Or.inl rfl) (pe_call G1 (hr.mono (by omega)) rfl G2 G3 G4 .nil pass0 (pa_cons (pe_var (i := 0) rfl (Or.inl rfl) (by decide) (by decide)) (pa_cons pe_int pa_nil)) (by decide) rfl rfl) rfl (.inl rfl)) pss_tSs, ?_⟩
  refine ⟨_, rfl, a, ns, rfl, hS, fun p H' ms sm hp => ?_⟩
  refine body_law T e cdv A outer s H E hr ⟨fun _ => none, fun _ => False, fun _ => False⟩ (fun b => b = p) _ H' _ ⟨rfl, fun i v u h3 h4 => ?_, fun i j r u v h3 h4 h5 h6 h7 h8 => ?_, fun b hb => (by rw [hb, hp]; exact fun z => (by cases z)), fun b (hb : False) => hb.elim, fun b o e _ => (by cases e), fun b (hb : False) => hb.elim, fun b (hb : False) => hb.elim⟩ ⟨?_, ?_, ?_, ?_⟩
  · match i, h3, h4 with
    | 0, h3, h4 => cases h4; trivial
    | 1, h3, h4 => cases h3; cases h4; exact ⟨p, ms, rfl, rfl, .inr rfl, hp⟩
    | 2, h3, h4 => cases h4; trivial
    | 3, h3, h4 => cases h4; trivial
    | 4, h3, h4 => cases h4; trivial
    | 5, h3, h4 => cases h4; trivial
    | 6, h3, h4 => cases h4; trivial
    | 7, h3, h4 => cases h4; trivial
    | 8, h3, h4 => cases h4; trivial
    | 9, h3, h4 => cases h4; trivial
    | n + 10, h3, h4 => cases h4
  · have key : ∀ (i : Nat) (u : Sl), ([.no, .dk, .no, .no, .no, .no, .no, .no, .no, .no] : List Sl)[i]? = some u → ownd u = true → i = 1 := by
      intro i u hu ho
      match i, hu with
      | 0, hu => cases hu; cases ho
      | 1, _ => rfl
      | 2, hu => cases hu; cases ho
      | 3, hu => cases hu; cases ho
      | 4, hu => cases hu; cases ho
      | 5, hu => cases hu; cases ho
      | 6, hu => cases hu; cases ho
      | 7, hu => cases hu; cases ho
      | 8, hu => cases hu; cases ho
      | 9, hu => cases hu; cases ho
      | n + 10, hu => cases hu
    rw [key i u h5 h7, key j v h6 h8]
  · intro S' σ' H2 δ' z; exact z.elim
  · intro v H2 d hd r hv
    subst hd
    rw [hv.bl_inv]
    exact q H2
  · intro S' σ' H2 δ' z; exact z.elim
  · intro S' σ' H2 δ' z; exact z.elim
end
end WK

set_option Elab.async false
set_option linter.all false
set_option maxRecDepth 100000
set_option maxHeartbeats 4000000
namespace WK
open PySem PySem.Spec PyProof.Rows L2 DL TM
/-! ### what stands at the top -/
theorem dfn_mk {K : PySem.W.Frag} {h : Heap} {mg : Str → Option Value} {x : Str} {st : Stmt} {ps : List Str} (X : K.In h) (G : h.Ns mainGlobals mg) {f : Addr} {od an : Option Addr} {sl : Array (Option Value)} {oc kV dc pm cd ct : Value}
    (a : PySem.W.nsIn K mainGlobals x = some (some (.ref f))) (l : K.lookup f = some ⟨oc, od, .func (PySem.W.fnOf x x (defArgs st) (defBody st) (defScope st) .none kV dc pm an cd ct), sl⟩) (c : PySem.W.codeIn K cd x = true) (k : PySem.W.keepIn K (.ref f) = true)
    (b : ∀ F : Fun K x x st f (PySem.W.fnOf x x (defArgs st) (defBody st) (defScope st) .none kV dc pm an cd ct), Binds K (PySem.W.fnOf x x (defArgs st) (defBody st) (defScope st) .none kV dc pm an cd ct) ps []) : Dfn K mg x st ps :=
  ⟨f, _, fun_mk (st := st) l c k, PySem.W.mg_of X G a, b (fun_mk (st := st) l c k)⟩
theorem tx_mk {K : PySem.W.Frag} {h : Heap} {mg : Str → Option Value} (X : K.In h) (G : h.Ns mainGlobals mg)
    {f0 : Addr} {od0 an0 : Option Addr} {sl0 : Array (Option Value)} {oc0 kV0 dc0 pm0 cd0 ct0 : Value}
    (a0 : PySem.W.nsIn K mainGlobals "opens" = some (some (.ref f0))) (l0 : K.lookup f0 = some ⟨oc0, od0, .func (PySem.W.fnOf "opens" "opens" (defArgs (topS 1)) (defBody (topS 1)) (defScope (topS 1)) .none kV0 dc0 pm0 an0 cd0 ct0), sl0⟩) (c0 : PySem.W.codeIn K cd0 "opens" = true) (k0 : PySem.W.keepIn K (.ref f0) = true)
    {f1 : Addr} {od1 an1 : Option Addr} {sl1 : Array (Option Value)} {oc1 kV1 dc1 pm1 cd1 ct1 : Value}
    (a1 : PySem.W.nsIn K mainGlobals "met" = some (some (.ref f1))) (l1 : K.lookup f1 = some ⟨oc1, od1, .func (PySem.W.fnOf "met" "met" (defArgs (topS 2)) (defBody (topS 2)) (defScope (topS 2)) .none kV1 dc1 pm1 an1 cd1 ct1), sl1⟩) (c1 : PySem.W.codeIn K cd1 "met" = true) (k1 : PySem.W.keepIn K (.ref f1) = true)
    {f2 : Addr} {od2 an2 : Option Addr} {sl2 : Array (Option Value)} {oc2 kV2 dc2 pm2 cd2 ct2 : Value}
    (a2 : PySem.W.nsIn K mainGlobals "stump_at" = some (some (.ref f2))) (l2 : K.lookup f2 = some ⟨oc2, od2, .func (PySem.W.fnOf "stump_at" "stump_at" (defArgs (topS 3)) (defBody (topS 3)) (defScope (topS 3)) .none kV2 dc2 pm2 an2 cd2 ct2), sl2⟩) (c2 : PySem.W.codeIn K cd2 "stump_at" = true) (k2 : PySem.W.keepIn K (.ref f2) = true)
    {f3 : Addr} {od3 an3 : Option Addr} {sl3 : Array (Option Value)} {oc3 kV3 dc3 pm3 cd3 ct3 : Value}
    (a3 : PySem.W.nsIn K mainGlobals "rows_of" = some (some (.ref f3))) (l3 : K.lookup f3 = some ⟨oc3, od3, .func (PySem.W.fnOf "rows_of" "rows_of" (defArgs (topS 8)) (defBody (topS 8)) (defScope (topS 8)) .none kV3 dc3 pm3 an3 cd3 ct3), sl3⟩) (c3 : PySem.W.codeIn K cd3 "rows_of" = true) (k3 : PySem.W.keepIn K (.ref f3) = true)
    {f4 : Addr} {od4 an4 : Option Addr} {sl4 : Array (Option Value)} {oc4 kV4 dc4 pm4 cd4 ct4 : Value}
    (a4 : PySem.W.nsIn K mainGlobals "leaf_of" = some (some (.ref f4))) (l4 : K.lookup f4 = some ⟨oc4, od4, .func (PySem.W.fnOf "leaf_of" "leaf_of" (defArgs (topS 9)) (defBody (topS 9)) (defScope (topS 9)) .none kV4 dc4 pm4 an4 cd4 ct4), sl4⟩) (c4 : PySem.W.codeIn K cd4 "leaf_of" = true) (k4 : PySem.W.keepIn K (.ref f4) = true)
    {f5 : Addr} {od5 an5 : Option Addr} {sl5 : Array (Option Value)} {oc5 kV5 dc5 pm5 cd5 ct5 : Value}
    (a5 : PySem.W.nsIn K mainGlobals "stump_in" = some (some (.ref f5))) (l5 : K.lookup f5 = some ⟨oc5, od5, .func (PySem.W.fnOf "stump_in" "stump_in" (defArgs (topS 11)) (defBody (topS 11)) (defScope (topS 11)) .none kV5 dc5 pm5 an5 cd5 ct5), sl5⟩) (c5 : PySem.W.codeIn K cd5 "stump_in" = true) (k5 : PySem.W.keepIn K (.ref f5) = true)
    {f6 : Addr} {od6 an6 : Option Addr} {sl6 : Array (Option Value)} {oc6 kV6 dc6 pm6 cd6 ct6 : Value}
    (a6 : PySem.W.nsIn K mainGlobals "met_of" = some (some (.ref f6))) (l6 : K.lookup f6 = some ⟨oc6, od6, .func (PySem.W.fnOf "met_of" "met_of" (defArgs (topS 12)) (defBody (topS 12)) (defScope (topS 12)) .none kV6 dc6 pm6 an6 cd6 ct6), sl6⟩) (c6 : PySem.W.codeIn K cd6 "met_of" = true) (k6 : PySem.W.keepIn K (.ref f6) = true)
    {f7 : Addr} {od7 an7 : Option Addr} {sl7 : Array (Option Value)} {oc7 kV7 dc7 pm7 cd7 ct7 : Value}
    (a7 : PySem.W.nsIn K mainGlobals "first_commons" = some (some (.ref f7))) (l7 : K.lookup f7 = some ⟨oc7, od7, .func (PySem.W.fnOf "first_commons" "first_commons" (defArgs (topS 13)) (defBody (topS 13)) (defScope (topS 13)) .none kV7 dc7 pm7 an7 cd7 ct7), sl7⟩) (c7 : PySem.W.codeIn K cd7 "first_commons" = true) (k7 : PySem.W.keepIn K (.ref f7) = true)
    {f8 : Addr} {od8 an8 : Option Addr} {sl8 : Array (Option Value)} {oc8 kV8 dc8 pm8 cd8 ct8 : Value}
    (a8 : PySem.W.nsIn K mainGlobals "next_commons" = some (some (.ref f8))) (l8 : K.lookup f8 = some ⟨oc8, od8, .func (PySem.W.fnOf "next_commons" "next_commons" (defArgs (topS 14)) (defBody (topS 14)) (defScope (topS 14)) .none kV8 dc8 pm8 an8 cd8 ct8), sl8⟩) (c8 : PySem.W.codeIn K cd8 "next_commons" = true) (k8 : PySem.W.keepIn K (.ref f8) = true)
    {f9 : Addr} {od9 an9 : Option Addr} {sl9 : Array (Option Value)} {oc9 kV9 dc9 pm9 cd9 ct9 : Value}
    (a9 : PySem.W.nsIn K mainGlobals "by_levels" = some (some (.ref f9))) (l9 : K.lookup f9 = some ⟨oc9, od9, .func (PySem.W.fnOf "by_levels" "by_levels" (defArgs (topS 15)) (defBody (topS 15)) (defScope (topS 15)) .none kV9 dc9 pm9 an9 cd9 ct9), sl9⟩) (c9 : PySem.W.codeIn K cd9 "by_levels" = true) (k9 : PySem.W.keepIn K (.ref f9) = true)
    {f10 : Addr} {od10 an10 : Option Addr} {sl10 : Array (Option Value)} {oc10 kV10 dc10 pm10 cd10 ct10 : Value}
    (a10 : PySem.W.nsIn K mainGlobals "within" = some (some (.ref f10))) (l10 : K.lookup f10 = some ⟨oc10, od10, .func (PySem.W.fnOf "within" "within" (defArgs (topS 16)) (defBody (topS 16)) (defScope (topS 16)) .none kV10 dc10 pm10 an10 cd10 ct10), sl10⟩) (c10 : PySem.W.codeIn K cd10 "within" = true) (k10 : PySem.W.keepIn K (.ref f10) = true)
    {f11 : Addr} {od11 an11 : Option Addr} {sl11 : Array (Option Value)} {oc11 kV11 dc11 pm11 cd11 ct11 : Value}
    (a11 : PySem.W.nsIn K mainGlobals "commons" = some (some (.ref f11))) (l11 : K.lookup f11 = some ⟨oc11, od11, .func (PySem.W.fnOf "commons" "commons" (defArgs (topS 17)) (defBody (topS 17)) (defScope (topS 17)) .none kV11 dc11 pm11 an11 cd11 ct11), sl11⟩) (c11 : PySem.W.codeIn K cd11 "commons" = true) (k11 : PySem.W.keepIn K (.ref f11) = true)
    {f12 : Addr} {od12 an12 : Option Addr} {sl12 : Array (Option Value)} {oc12 kV12 dc12 pm12 cd12 ct12 : Value}
    (a12 : PySem.W.nsIn K mainGlobals "row_number" = some (some (.ref f12))) (l12 : K.lookup f12 = some ⟨oc12, od12, .func (PySem.W.fnOf "row_number" "row_number" (defArgs (topS 19)) (defBody (topS 19)) (defScope (topS 19)) .none kV12 dc12 pm12 an12 cd12 ct12), sl12⟩) (c12 : PySem.W.codeIn K cd12 "row_number" = true) (k12 : PySem.W.keepIn K (.ref f12) = true)
    {f13 : Addr} {od13 an13 : Option Addr} {sl13 : Array (Option Value)} {oc13 kV13 dc13 pm13 cd13 ct13 : Value}
    (a13 : PySem.W.nsIn K mainGlobals "rule_of" = some (some (.ref f13))) (l13 : K.lookup f13 = some ⟨oc13, od13, .func (PySem.W.fnOf "rule_of" "rule_of" (defArgs (topS 20)) (defBody (topS 20)) (defScope (topS 20)) .none kV13 dc13 pm13 an13 cd13 ct13), sl13⟩) (c13 : PySem.W.codeIn K cd13 "rule_of" = true) (k13 : PySem.W.keepIn K (.ref f13) = true)
    {f14 : Addr} {od14 an14 : Option Addr} {sl14 : Array (Option Value)} {oc14 kV14 dc14 pm14 cd14 ct14 : Value}
    (a14 : PySem.W.nsIn K mainGlobals "grown" = some (some (.ref f14))) (l14 : K.lookup f14 = some ⟨oc14, od14, .func (PySem.W.fnOf "grown" "grown" (defArgs (topS 22)) (defBody (topS 22)) (defScope (topS 22)) .none kV14 dc14 pm14 an14 cd14 ct14), sl14⟩) (c14 : PySem.W.codeIn K cd14 "grown" = true) (k14 : PySem.W.keepIn K (.ref f14) = true)
    {f15 : Addr} {od15 an15 : Option Addr} {sl15 : Array (Option Value)} {oc15 kV15 dc15 pm15 cd15 ct15 : Value}
    (a15 : PySem.W.nsIn K mainGlobals "leaf_label" = some (some (.ref f15))) (l15 : K.lookup f15 = some ⟨oc15, od15, .func (PySem.W.fnOf "leaf_label" "leaf_label" (defArgs (topS 23)) (defBody (topS 23)) (defScope (topS 23)) .none kV15 dc15 pm15 an15 cd15 ct15), sl15⟩) (c15 : PySem.W.codeIn K cd15 "leaf_label" = true) (k15 : PySem.W.keepIn K (.ref f15) = true)
    {f16 : Addr} {od16 an16 : Option Addr} {sl16 : Array (Option Value)} {oc16 kV16 dc16 pm16 cd16 ct16 : Value}
    (a16 : PySem.W.nsIn K mainGlobals "stands_at" = some (some (.ref f16))) (l16 : K.lookup f16 = some ⟨oc16, od16, .func (PySem.W.fnOf "stands_at" "stands_at" (defArgs (topS 24)) (defBody (topS 24)) (defScope (topS 24)) .none kV16 dc16 pm16 an16 cd16 ct16), sl16⟩) (c16 : PySem.W.codeIn K cd16 "stands_at" = true) (k16 : PySem.W.keepIn K (.ref f16) = true)
    {f17 : Addr} {od17 an17 : Option Addr} {sl17 : Array (Option Value)} {oc17 kV17 dc17 pm17 cd17 ct17 : Value}
    (a17 : PySem.W.nsIn K mainGlobals "unlike_put" = some (some (.ref f17))) (l17 : K.lookup f17 = some ⟨oc17, od17, .func (PySem.W.fnOf "unlike_put" "unlike_put" (defArgs (topS 25)) (defBody (topS 25)) (defScope (topS 25)) .none kV17 dc17 pm17 an17 cd17 ct17), sl17⟩) (c17 : PySem.W.codeIn K cd17 "unlike_put" = true) (k17 : PySem.W.keepIn K (.ref f17) = true)
    {f18 : Addr} {od18 an18 : Option Addr} {sl18 : Array (Option Value)} {oc18 kV18 dc18 pm18 cd18 ct18 : Value}
    (a18 : PySem.W.nsIn K mainGlobals "unlike_call" = some (some (.ref f18))) (l18 : K.lookup f18 = some ⟨oc18, od18, .func (PySem.W.fnOf "unlike_call" "unlike_call" (defArgs (topS 26)) (defBody (topS 26)) (defScope (topS 26)) .none kV18 dc18 pm18 an18 cd18 ct18), sl18⟩) (c18 : PySem.W.codeIn K cd18 "unlike_call" = true) (k18 : PySem.W.keepIn K (.ref f18) = true)
    {f19 : Addr} {od19 an19 : Option Addr} {sl19 : Array (Option Value)} {oc19 kV19 dc19 pm19 cd19 ct19 : Value}
    (a19 : PySem.W.nsIn K mainGlobals "unlike" = some (some (.ref f19))) (l19 : K.lookup f19 = some ⟨oc19, od19, .func (PySem.W.fnOf "unlike" "unlike" (defArgs (topS 27)) (defBody (topS 27)) (defScope (topS 27)) .none kV19 dc19 pm19 an19 cd19 ct19), sl19⟩) (c19 : PySem.W.codeIn K cd19 "unlike" = true) (k19 : PySem.W.keepIn K (.ref f19) = true)
    {f20 : Addr} {od20 an20 : Option Addr} {sl20 : Array (Option Value)} {oc20 kV20 dc20 pm20 cd20 ct20 : Value}
    (a20 : PySem.W.nsIn K mainGlobals "pair_at" = some (some (.ref f20))) (l20 : K.lookup f20 = some ⟨oc20, od20, .func (PySem.W.fnOf "pair_at" "pair_at" (defArgs (topS 28)) (defBody (topS 28)) (defScope (topS 28)) .none kV20 dc20 pm20 an20 cd20 ct20), sl20⟩) (c20 : PySem.W.codeIn K cd20 "pair_at" = true) (k20 : PySem.W.keepIn K (.ref f20) = true)
    {f21 : Addr} {od21 an21 : Option Addr} {sl21 : Array (Option Value)} {oc21 kV21 dc21 pm21 cd21 ct21 : Value}
    (a21 : PySem.W.nsIn K mainGlobals "split" = some (some (.ref f21))) (l21 : K.lookup f21 = some ⟨oc21, od21, .func (PySem.W.fnOf "split" "split" (defArgs (topS 29)) (defBody (topS 29)) (defScope (topS 29)) .none kV21 dc21 pm21 an21 cd21 ct21), sl21⟩) (c21 : PySem.W.codeIn K cd21 "split" = true) (k21 : PySem.W.keepIn K (.ref f21) = true)
    {f22 : Addr} {od22 an22 : Option Addr} {sl22 : Array (Option Value)} {oc22 kV22 dc22 pm22 cd22 ct22 : Value}
    (a22 : PySem.W.nsIn K mainGlobals "_law_numbers" = some (some (.ref f22))) (l22 : K.lookup f22 = some ⟨oc22, od22, .func (PySem.W.fnOf "_law_numbers" "_law_numbers" (defArgs (topS 31)) (defBody (topS 31)) (defScope (topS 31)) .none kV22 dc22 pm22 an22 cd22 ct22), sl22⟩) (c22 : PySem.W.codeIn K cd22 "_law_numbers" = true) (k22 : PySem.W.keepIn K (.ref f22) = true)
    {f23 : Addr} {od23 an23 : Option Addr} {sl23 : Array (Option Value)} {oc23 kV23 dc23 pm23 cd23 ct23 : Value}
    (a23 : PySem.W.nsIn K mainGlobals "_law_draw" = some (some (.ref f23))) (l23 : K.lookup f23 = some ⟨oc23, od23, .func (PySem.W.fnOf "_law_draw" "_law_draw" (defArgs (topS 32)) (defBody (topS 32)) (defScope (topS 32)) .none kV23 dc23 pm23 an23 cd23 ct23), sl23⟩) (c23 : PySem.W.codeIn K cd23 "_law_draw" = true) (k23 : PySem.W.keepIn K (.ref f23) = true)
    {f24 : Addr} {od24 an24 : Option Addr} {sl24 : Array (Option Value)} {oc24 kV24 dc24 pm24 cd24 ct24 : Value}
    (a24 : PySem.W.nsIn K mainGlobals "_law_mark" = some (some (.ref f24))) (l24 : K.lookup f24 = some ⟨oc24, od24, .func (PySem.W.fnOf "_law_mark" "_law_mark" (defArgs (topS 33)) (defBody (topS 33)) (defScope (topS 33)) .none kV24 dc24 pm24 an24 cd24 ct24), sl24⟩) (c24 : PySem.W.codeIn K cd24 "_law_mark" = true) (k24 : PySem.W.keepIn K (.ref f24) = true)
    {f25 : Addr} {od25 an25 : Option Addr} {sl25 : Array (Option Value)} {oc25 kV25 dc25 pm25 cd25 ct25 : Value}
    (a25 : PySem.W.nsIn K mainGlobals "_law_name" = some (some (.ref f25))) (l25 : K.lookup f25 = some ⟨oc25, od25, .func (PySem.W.fnOf "_law_name" "_law_name" (defArgs (topS 34)) (defBody (topS 34)) (defScope (topS 34)) .none kV25 dc25 pm25 an25 cd25 ct25), sl25⟩) (c25 : PySem.W.codeIn K cd25 "_law_name" = true) (k25 : PySem.W.keepIn K (.ref f25) = true)
    {f26 : Addr} {od26 an26 : Option Addr} {sl26 : Array (Option Value)} {oc26 kV26 dc26 pm26 cd26 ct26 : Value}
    (a26 : PySem.W.nsIn K mainGlobals "_law_wood" = some (some (.ref f26))) (l26 : K.lookup f26 = some ⟨oc26, od26, .func (PySem.W.fnOf "_law_wood" "_law_wood" (defArgs (topS 35)) (defBody (topS 35)) (defScope (topS 35)) .none kV26 dc26 pm26 an26 cd26 ct26), sl26⟩) (c26 : PySem.W.codeIn K cd26 "_law_wood" = true) (k26 : PySem.W.keepIn K (.ref f26) = true)
    {f27 : Addr} {od27 an27 : Option Addr} {sl27 : Array (Option Value)} {oc27 kV27 dc27 pm27 cd27 ct27 : Value}
    (a27 : PySem.W.nsIn K mainGlobals "_law_rows" = some (some (.ref f27))) (l27 : K.lookup f27 = some ⟨oc27, od27, .func (PySem.W.fnOf "_law_rows" "_law_rows" (defArgs (topS 36)) (defBody (topS 36)) (defScope (topS 36)) .none kV27 dc27 pm27 an27 cd27 ct27), sl27⟩) (c27 : PySem.W.codeIn K cd27 "_law_rows" = true) (k27 : PySem.W.keepIn K (.ref f27) = true)
    {f28 : Addr} {od28 an28 : Option Addr} {sl28 : Array (Option Value)} {oc28 kV28 dc28 pm28 cd28 ct28 : Value}
    (a28 : PySem.W.nsIn K mainGlobals "_law_term" = some (some (.ref f28))) (l28 : K.lookup f28 = some ⟨oc28, od28, .func (PySem.W.fnOf "_law_term" "_law_term" (defArgs (topS 37)) (defBody (topS 37)) (defScope (topS 37)) .none kV28 dc28 pm28 an28 cd28 ct28), sl28⟩) (c28 : PySem.W.codeIn K cd28 "_law_term" = true) (k28 : PySem.W.keepIn K (.ref f28) = true)
    {f29 : Addr} {od29 an29 : Option Addr} {sl29 : Array (Option Value)} {oc29 kV29 dc29 pm29 cd29 ct29 : Value}
    (a29 : PySem.W.nsIn K mainGlobals "_law_changed" = some (some (.ref f29))) (l29 : K.lookup f29 = some ⟨oc29, od29, .func (PySem.W.fnOf "_law_changed" "_law_changed" (defArgs (topS 38)) (defBody (topS 38)) (defScope (topS 38)) .none kV29 dc29 pm29 an29 cd29 ct29), sl29⟩) (c29 : PySem.W.codeIn K cd29 "_law_changed" = true) (k29 : PySem.W.keepIn K (.ref f29) = true)
    {f30 : Addr} {od30 an30 : Option Addr} {sl30 : Array (Option Value)} {oc30 kV30 dc30 pm30 cd30 ct30 : Value}
    (a30 : PySem.W.nsIn K mainGlobals "_law_calls" = some (some (.ref f30))) (l30 : K.lookup f30 = some ⟨oc30, od30, .func (PySem.W.fnOf "_law_calls" "_law_calls" (defArgs (topS 39)) (defBody (topS 39)) (defScope (topS 39)) .none kV30 dc30 pm30 an30 cd30 ct30), sl30⟩) (c30 : PySem.W.codeIn K cd30 "_law_calls" = true) (k30 : PySem.W.keepIn K (.ref f30) = true)
    {f31 : Addr} {od31 an31 : Option Addr} {sl31 : Array (Option Value)} {oc31 kV31 dc31 pm31 cd31 ct31 : Value}
    (a31 : PySem.W.nsIn K mainGlobals "_law_rule" = some (some (.ref f31))) (l31 : K.lookup f31 = some ⟨oc31, od31, .func (PySem.W.fnOf "_law_rule" "_law_rule" (defArgs (topS 40)) (defBody (topS 40)) (defScope (topS 40)) .none kV31 dc31 pm31 an31 cd31 ct31), sl31⟩) (c31 : PySem.W.codeIn K cd31 "_law_rule" = true) (k31 : PySem.W.keepIn K (.ref f31) = true)
    {f32 : Addr} {od32 an32 : Option Addr} {sl32 : Array (Option Value)} {oc32 kV32 dc32 pm32 cd32 ct32 : Value}
    (a32 : PySem.W.nsIn K mainGlobals "_law_turning" = some (some (.ref f32))) (l32 : K.lookup f32 = some ⟨oc32, od32, .func (PySem.W.fnOf "_law_turning" "_law_turning" (defArgs (topS 41)) (defBody (topS 41)) (defScope (topS 41)) .none kV32 dc32 pm32 an32 cd32 ct32), sl32⟩) (c32 : PySem.W.codeIn K cd32 "_law_turning" = true) (k32 : PySem.W.keepIn K (.ref f32) = true)
    {f33 : Addr} {od33 an33 : Option Addr} {sl33 : Array (Option Value)} {oc33 kV33 dc33 pm33 cd33 ct33 : Value}
    (a33 : PySem.W.nsIn K mainGlobals "_law_bare" = some (some (.ref f33))) (l33 : K.lookup f33 = some ⟨oc33, od33, .func (PySem.W.fnOf "_law_bare" "_law_bare" (defArgs (topS 42)) (defBody (topS 42)) (defScope (topS 42)) .none kV33 dc33 pm33 an33 cd33 ct33), sl33⟩) (c33 : PySem.W.codeIn K cd33 "_law_bare" = true) (k33 : PySem.W.keepIn K (.ref f33) = true)
    {f34 : Addr} {od34 an34 : Option Addr} {sl34 : Array (Option Value)} {oc34 kV34 dc34 pm34 cd34 ct34 : Value}
    (a34 : PySem.W.nsIn K mainGlobals "_law_copy" = some (some (.ref f34))) (l34 : K.lookup f34 = some ⟨oc34, od34, .func (PySem.W.fnOf "_law_copy" "_law_copy" (defArgs (topS 43)) (defBody (topS 43)) (defScope (topS 43)) .none kV34 dc34 pm34 an34 cd34 ct34), sl34⟩) (c34 : PySem.W.codeIn K cd34 "_law_copy" = true) (k34 : PySem.W.keepIn K (.ref f34) = true)
    {f35 : Addr} {od35 an35 : Option Addr} {sl35 : Array (Option Value)} {oc35 kV35 dc35 pm35 cd35 ct35 : Value}
    (a35 : PySem.W.nsIn K mainGlobals "_law_whole" = some (some (.ref f35))) (l35 : K.lookup f35 = some ⟨oc35, od35, .func (PySem.W.fnOf "_law_whole" "_law_whole" (defArgs (topS 44)) (defBody (topS 44)) (defScope (topS 44)) .none kV35 dc35 pm35 an35 cd35 ct35), sl35⟩) (c35 : PySem.W.codeIn K cd35 "_law_whole" = true) (k35 : PySem.W.keepIn K (.ref f35) = true)
    {f36 : Addr} {od36 an36 : Option Addr} {sl36 : Array (Option Value)} {oc36 kV36 dc36 pm36 cd36 ct36 : Value}
    (a36 : PySem.W.nsIn K mainGlobals "_law_is_stump" = some (some (.ref f36))) (l36 : K.lookup f36 = some ⟨oc36, od36, .func (PySem.W.fnOf "_law_is_stump" "_law_is_stump" (defArgs (topS 45)) (defBody (topS 45)) (defScope (topS 45)) .none kV36 dc36 pm36 an36 cd36 ct36), sl36⟩) (c36 : PySem.W.codeIn K cd36 "_law_is_stump" = true) (k36 : PySem.W.keepIn K (.ref f36) = true)
    {f37 : Addr} {od37 an37 : Option Addr} {sl37 : Array (Option Value)} {oc37 kV37 dc37 pm37 cd37 ct37 : Value}
    (a37 : PySem.W.nsIn K mainGlobals "_law_opens" = some (some (.ref f37))) (l37 : K.lookup f37 = some ⟨oc37, od37, .func (PySem.W.fnOf "_law_opens" "_law_opens" (defArgs (topS 46)) (defBody (topS 46)) (defScope (topS 46)) .none kV37 dc37 pm37 an37 cd37 ct37), sl37⟩) (c37 : PySem.W.codeIn K cd37 "_law_opens" = true) (k37 : PySem.W.keepIn K (.ref f37) = true)
    {f38 : Addr} {od38 an38 : Option Addr} {sl38 : Array (Option Value)} {oc38 kV38 dc38 pm38 cd38 ct38 : Value}
    (a38 : PySem.W.nsIn K mainGlobals "_law_is_tree" = some (some (.ref f38))) (l38 : K.lookup f38 = some ⟨oc38, od38, .func (PySem.W.fnOf "_law_is_tree" "_law_is_tree" (defArgs (topS 47)) (defBody (topS 47)) (defScope (topS 47)) .none kV38 dc38 pm38 an38 cd38 ct38), sl38⟩) (c38 : PySem.W.codeIn K cd38 "_law_is_tree" = true) (k38 : PySem.W.keepIn K (.ref f38) = true)
    {f39 : Addr} {od39 an39 : Option Addr} {sl39 : Array (Option Value)} {oc39 kV39 dc39 pm39 cd39 ct39 : Value}
    (a39 : PySem.W.nsIn K mainGlobals "_law_tree" = some (some (.ref f39))) (l39 : K.lookup f39 = some ⟨oc39, od39, .func (PySem.W.fnOf "_law_tree" "_law_tree" (defArgs (topS 49)) (defBody (topS 49)) (defScope (topS 49)) .none kV39 dc39 pm39 an39 cd39 ct39), sl39⟩) (c39 : PySem.W.codeIn K cd39 "_law_tree" = true) (k39 : PySem.W.keepIn K (.ref f39) = true)
    {f40 : Addr} {od40 an40 : Option Addr} {sl40 : Array (Option Value)} {oc40 kV40 dc40 pm40 cd40 ct40 : Value}
    (a40 : PySem.W.nsIn K mainGlobals "_law_rule_of" = some (some (.ref f40))) (l40 : K.lookup f40 = some ⟨oc40, od40, .func (PySem.W.fnOf "_law_rule_of" "_law_rule_of" (defArgs (topS 50)) (defBody (topS 50)) (defScope (topS 50)) .none kV40 dc40 pm40 an40 cd40 ct40), sl40⟩) (c40 : PySem.W.codeIn K cd40 "_law_rule_of" = true) (k40 : PySem.W.keepIn K (.ref f40) = true)
    {f41 : Addr} {od41 an41 : Option Addr} {sl41 : Array (Option Value)} {oc41 kV41 dc41 pm41 cd41 ct41 : Value}
    (a41 : PySem.W.nsIn K mainGlobals "_law_made" = some (some (.ref f41))) (l41 : K.lookup f41 = some ⟨oc41, od41, .func (PySem.W.fnOf "_law_made" "_law_made" (defArgs (topS 51)) (defBody (topS 51)) (defScope (topS 51)) .none kV41 dc41 pm41 an41 cd41 ct41), sl41⟩) (c41 : PySem.W.codeIn K cd41 "_law_made" = true) (k41 : PySem.W.keepIn K (.ref f41) = true)
    {f42 : Addr} {od42 an42 : Option Addr} {sl42 : Array (Option Value)} {oc42 kV42 dc42 pm42 cd42 ct42 : Value}
    (a42 : PySem.W.nsIn K mainGlobals "_law_made_by" = some (some (.ref f42))) (l42 : K.lookup f42 = some ⟨oc42, od42, .func (PySem.W.fnOf "_law_made_by" "_law_made_by" (defArgs (topS 52)) (defBody (topS 52)) (defScope (topS 52)) .none kV42 dc42 pm42 an42 cd42 ct42), sl42⟩) (c42 : PySem.W.codeIn K cd42 "_law_made_by" = true) (k42 : PySem.W.keepIn K (.ref f42) = true)
    {f43 : Addr} {od43 an43 : Option Addr} {sl43 : Array (Option Value)} {oc43 kV43 dc43 pm43 cd43 ct43 : Value}
    (a43 : PySem.W.nsIn K mainGlobals "_law_begins" = some (some (.ref f43))) (l43 : K.lookup f43 = some ⟨oc43, od43, .func (PySem.W.fnOf "_law_begins" "_law_begins" (defArgs (topS 53)) (defBody (topS 53)) (defScope (topS 53)) .none kV43 dc43 pm43 an43 cd43 ct43), sl43⟩) (c43 : PySem.W.codeIn K cd43 "_law_begins" = true) (k43 : PySem.W.keepIn K (.ref f43) = true)
    {f44 : Addr} {od44 an44 : Option Addr} {sl44 : Array (Option Value)} {oc44 kV44 dc44 pm44 cd44 ct44 : Value}
    (a44 : PySem.W.nsIn K mainGlobals "_law_label" = some (some (.ref f44))) (l44 : K.lookup f44 = some ⟨oc44, od44, .func (PySem.W.fnOf "_law_label" "_law_label" (defArgs (topS 54)) (defBody (topS 54)) (defScope (topS 54)) .none kV44 dc44 pm44 an44 cd44 ct44), sl44⟩) (c44 : PySem.W.codeIn K cd44 "_law_label" = true) (k44 : PySem.W.keepIn K (.ref f44) = true)
    {f45 : Addr} {od45 an45 : Option Addr} {sl45 : Array (Option Value)} {oc45 kV45 dc45 pm45 cd45 ct45 : Value}
    (a45 : PySem.W.nsIn K mainGlobals "_law_part_of" = some (some (.ref f45))) (l45 : K.lookup f45 = some ⟨oc45, od45, .func (PySem.W.fnOf "_law_part_of" "_law_part_of" (defArgs (topS 55)) (defBody (topS 55)) (defScope (topS 55)) .none kV45 dc45 pm45 an45 cd45 ct45), sl45⟩) (c45 : PySem.W.codeIn K cd45 "_law_part_of" = true) (k45 : PySem.W.keepIn K (.ref f45) = true)
    (z_len : PySem.W.nsIn K mainGlobals "len" = some none)
    (z_tuple : PySem.W.nsIn K mainGlobals "tuple" = some none)
    (z_zip : PySem.W.nsIn K mainGlobals "zip" = some none)
    (z_enumerate : PySem.W.nsIn K mainGlobals "enumerate" = some none)
    (z_list : PySem.W.nsIn K mainGlobals "list" = some none)
    (z_range : PySem.W.nsIn K mainGlobals "range" = some none)
    (z_isinstance : PySem.W.nsIn K mainGlobals "isinstance" = some none)
    (z_int : PySem.W.nsIn K mainGlobals "int" = some none)
    (z_bool : PySem.W.nsIn K mainGlobals "bool" = some none)
    (z_str : PySem.W.nsIn K mainGlobals "str" = some none)
    (z_min : PySem.W.nsIn K mainGlobals "min" = some none)
    (z_sum : PySem.W.nsIn K mainGlobals "sum" = some none)
    (z_sorted : PySem.W.nsIn K mainGlobals "sorted" = some none)
    (z_reversed : PySem.W.nsIn K mainGlobals "reversed" = some none) : Tx K mg where
  z_len := PySem.W.mg_none_of X G z_len
  z_tuple := PySem.W.mg_none_of X G z_tuple
  z_zip := PySem.W.mg_none_of X G z_zip
  z_enumerate := PySem.W.mg_none_of X G z_enumerate
  z_list := PySem.W.mg_none_of X G z_list
  z_range := PySem.W.mg_none_of X G z_range
  z_isinstance := PySem.W.mg_none_of X G z_isinstance
  z_int := PySem.W.mg_none_of X G z_int
  z_bool := PySem.W.mg_none_of X G z_bool
  z_str := PySem.W.mg_none_of X G z_str
  z_min := PySem.W.mg_none_of X G z_min
  z_sum := PySem.W.mg_none_of X G z_sum
  z_sorted := PySem.W.mg_none_of X G z_sorted
  z_reversed := PySem.W.mg_none_of X G z_reversed
  d_opens := dfn_mk X G a0 l0 c0 k0 fun F => F.binds (ps := ["stump"]) fun _ _ _ _ _ _ us hl => match us, hl with | [_], _ => rfl
  d_met := dfn_mk X G a1 l1 c1 k1 fun F => F.binds (ps := ["one", "other"]) fun _ _ _ _ _ _ us hl => match us, hl with | [_, _], _ => rfl
  d_stump_at := dfn_mk X G a2 l2 c2 k2 fun F => F.binds (ps := ["stump", "place"]) fun _ _ _ _ _ _ us hl => match us, hl with | [_, _], _ => rfl
  d_rows_of := dfn_mk X G a3 l3 c3 k3 fun F => F.binds (ps := ["wood", "kind"]) fun _ _ _ _ _ _ us hl => match us, hl with | [_, _], _ => rfl
  d_leaf_of := dfn_mk X G a4 l4 c4 k4 fun F => F.binds (ps := ["wood", "kind"]) fun _ _ _ _ _ _ us hl => match us, hl with | [_, _], _ => rfl
  d_stump_in := dfn_mk X G a5 l5 c5 k5 fun F => F.binds (ps := ["term", "stumps"]) fun _ _ _ _ _ _ us hl => match us, hl with | [_, _], _ => rfl
  d_met_of := dfn_mk X G a6 l6 c6 k6 fun F => F.binds (ps := ["stumps"]) fun _ _ _ _ _ _ us hl => match us, hl with | [_], _ => rfl
  d_first_commons := dfn_mk X G a7 l7 c7 k7 fun F => F.binds (ps := ["turning"]) fun _ _ _ _ _ _ us hl => match us, hl with | [_], _ => rfl
  d_next_commons := dfn_mk X G a8 l8 c8 k8 fun F => F.binds (ps := ["turning", "stumps"]) fun _ _ _ _ _ _ us hl => match us, hl with | [_, _], _ => rfl
  d_by_levels := dfn_mk X G a9 l9 c9 k9 fun F => F.binds (ps := ["turning", "most"]) fun _ _ _ _ _ _ us hl => match us, hl with | [_, _], _ => rfl
  d_within := dfn_mk X G a10 l10 c10 k10 fun F => F.binds (ps := ["tables", "many"]) fun _ _ _ _ _ _ us hl => match us, hl with | [_, _], _ => rfl
  d_commons := dfn_mk X G a11 l11 c11 k11 fun F => F.binds (ps := ["turning"]) fun _ _ _ _ _ _ us hl => match us, hl with | [_], _ => rfl
  d_row_number := dfn_mk X G a12 l12 c12 k12 fun F => F.binds (ps := ["wood", "kind", "name"]) fun _ _ _ _ _ _ us hl => match us, hl with | [_, _, _], _ => rfl
  d_rule_of := dfn_mk X G a13 l13 c13 k13 fun F => F.binds (ps := ["turning", "mode", "name"]) fun _ _ _ _ _ _ us hl => match us, hl with | [_, _, _], _ => rfl
  d_grown := dfn_mk X G a14 l14 c14 k14 fun F => F.binds (ps := ["turning", "row", "mark", "branch", "inner"]) fun _ _ _ _ _ _ us hl => match us, hl with | [_, _, _, _, _], _ => rfl
  d_leaf_label := dfn_mk X G a15 l15 c15 k15 fun F => F.binds (ps := ["turning", "mode", "place"]) fun _ _ _ _ _ _ us hl => match us, hl with | [_, _, _], _ => rfl
  d_stands_at := dfn_mk X G a16 l16 c16 k16 fun F => F.binds (ps := ["rule", "place"]) fun _ _ _ _ _ _ us hl => match us, hl with | [_, _], _ => rfl
  d_unlike_put := dfn_mk X G a17 l17 c17 k17 fun F => F.binds (ps := ["turning", "row", "put", "label"]) fun _ _ _ _ _ _ us hl => match us, hl with | [_, _, _, _], _ => rfl
  d_unlike_call := dfn_mk X G a18 l18 c18 k18 fun F => F.binds (ps := ["turning", "tables", "row", "call", "rest", "many", "label"]) fun _ _ _ _ _ _ us hl => match us, hl with | [_, _, _, _, _, _, _], _ => rfl
  d_unlike := dfn_mk X G a19 l19 c19 k19 fun F => F.binds (ps := ["turning", "tables", "mode", "place", "many", "label"]) fun _ _ _ _ _ _ us hl => match us, hl with | [_, _, _, _, _, _], _ => rfl
  d_pair_at := dfn_mk X G a20 l20 c20 k20 fun F => F.binds (ps := ["turning", "tables", "mode", "place", "many"]) fun _ _ _ _ _ _ us hl => match us, hl with | [_, _, _, _, _], _ => rfl
  d_split := dfn_mk X G a21 l21 c21 k21 fun F => F.binds (ps := ["turning", "mode", "place"]) fun _ _ _ _ _ _ us hl => match us, hl with | [_, _, _], _ => rfl
  d_law_numbers := dfn_mk X G a22 l22 c22 k22 fun F => F.binds (ps := ["_law_script", "_law_most"]) fun _ _ _ _ _ _ us hl => match us, hl with | [_, _], _ => rfl
  d_law_draw := dfn_mk X G a23 l23 c23 k23 fun F => F.binds (ps := ["_law_deck", "_law_most"]) fun _ _ _ _ _ _ us hl => match us, hl with | [_, _], _ => rfl
  d_law_mark := dfn_mk X G a24 l24 c24 k24 fun F => F.binds (ps := ["_law_deck"]) fun _ _ _ _ _ _ us hl => match us, hl with | [_], _ => rfl
  d_law_name := dfn_mk X G a25 l25 c25 k25 fun F => F.binds (ps := ["_law_code", "_law_k"]) fun _ _ _ _ _ _ us hl => match us, hl with | [_, _], _ => rfl
  d_law_wood := dfn_mk X G a26 l26 c26 k26 fun F => F.binds (ps := ["_law_deck", "_law_code"]) fun _ _ _ _ _ _ us hl => match us, hl with | [_, _], _ => rfl
  d_law_rows := dfn_mk X G a27 l27 c27 k27 fun F => F.binds (ps := ["_law_wood_here", "_law_kind"]) fun _ _ _ _ _ _ us hl => match us, hl with | [_, _], _ => rfl
  d_law_term := dfn_mk X G a28 l28 c28 k28 fun F => F.binds (ps := ["_law_deck", "_law_code", "_law_calls_here", "_law_deep_here"]) fun _ _ _ _ _ _ us hl => match us, hl with | [_, _, _, _], _ => rfl
  d_law_changed := dfn_mk X G a29 l29 c29 k29 fun F => F.binds (ps := ["_law_deck", "_law_code", "_law_term_here", "_law_calls_here"]) fun _ _ _ _ _ _ us hl => match us, hl with | [_, _, _, _], _ => rfl
  d_law_calls := dfn_mk X G a30 l30 c30 k30 fun F => F.binds (ps := ["_law_kinds", "_law_branches"]) fun _ _ _ _ _ _ us hl => match us, hl with | [_, _], _ => rfl
  d_law_rule := dfn_mk X G a31 l31 c31 k31 fun F => F.binds (ps := ["_law_deck", "_law_code", "_law_base", "_law_calls_here"]) fun _ _ _ _ _ _ us hl => match us, hl with | [_, _, _, _], _ => rfl
  d_law_turning := dfn_mk X G a32 l32 c32 k32 fun F => F.binds (ps := ["_law_deck", "_law_code", "_law_wood_here"]) fun _ _ _ _ _ _ us hl => match us, hl with | [_, _, _], _ => rfl
  d_law_bare := dfn_mk X G a33 l33 c33 k33 fun F => F.binds (ps := ["_law_term_here"]) fun _ _ _ _ _ _ us hl => match us, hl with | [_], _ => rfl
  d_law_copy := dfn_mk X G a34 l34 c34 k34 fun F => F.binds (ps := ["_law_turning_here"]) fun _ _ _ _ _ _ us hl => match us, hl with | [_], _ => rfl
  d_law_whole := dfn_mk X G a35 l35 c35 k35 fun F => F.binds (ps := ["_law_found"]) fun _ _ _ _ _ _ us hl => match us, hl with | [_], _ => rfl
  d_law_is_stump := dfn_mk X G a36 l36 c36 k36 fun F => F.binds (ps := ["_law_found"]) fun _ _ _ _ _ _ us hl => match us, hl with | [_], _ => rfl
  d_law_opens := dfn_mk X G a37 l37 c37 k37 fun F => F.binds (ps := ["_law_stump"]) fun _ _ _ _ _ _ us hl => match us, hl with | [_], _ => rfl
  d_law_is_tree := dfn_mk X G a38 l38 c38 k38 fun F => F.binds (ps := ["_law_wood_here", "_law_kind", "_law_found"]) fun _ _ _ _ _ _ us hl => match us, hl with | [_, _, _], _ => rfl
  d_law_tree := dfn_mk X G a39 l39 c39 k39 fun F => F.binds (ps := ["_law_deck", "_law_wood_here", "_law_kind", "_law_deep_here"]) fun _ _ _ _ _ _ us hl => match us, hl with | [_, _, _, _], _ => rfl
  d_law_rule_of := dfn_mk X G a40 l40 c40 k40 fun F => F.binds (ps := ["_law_turning_here", "_law_mode", "_law_name_here"]) fun _ _ _ _ _ _ us hl => match us, hl with | [_, _, _], _ => rfl
  d_law_made := dfn_mk X G a41 l41 c41 k41 fun F => F.binds (ps := ["_law_turning_here", "_law_mode", "_law_tree_here"]) fun _ _ _ _ _ _ us hl => match us, hl with | [_, _, _], _ => rfl
  d_law_made_by := dfn_mk X G a42 l42 c42 k42 fun F => F.binds (ps := ["_law_turning_here", "_law_term_here", "_law_tree_here"]) fun _ _ _ _ _ _ us hl => match us, hl with | [_, _, _], _ => rfl
  d_law_begins := dfn_mk X G a43 l43 c43 k43 fun F => F.binds (ps := ["_law_stump", "_law_tree_here"]) fun _ _ _ _ _ _ us hl => match us, hl with | [_, _], _ => rfl
  d_law_label := dfn_mk X G a44 l44 c44 k44 fun F => F.binds (ps := ["_law_turning_here", "_law_mode", "_law_tree_here", "_law_place"]) fun _ _ _ _ _ _ us hl => match us, hl with | [_, _, _, _], _ => rfl
  d_law_part_of := dfn_mk X G a45 l45 c45 k45 fun F => F.binds (ps := ["_law_turning_here", "_law_mode", "_law_found", "_law_place"]) fun _ _ _ _ _ _ us hl => match us, hl with | [_, _, _, _], _ => rfl
theorem law_mk {l : PySem.W.OpenLaw} {w : World} {K : PySem.W.Frag} {h : Heap} {mg : Str → Option Value} {fa fL : Addr} (X : K.In h) (G : h.Ns mainGlobals mg) (hfa : mg "law" = some (.ref fa)) (T : Tx K mg)
    {od an : Option Addr} {sl : Array (Option Value)} {oc kV dc pm cd ct : Value}
    (aL : PySem.W.nsIn K mainGlobals "law" = some (some (.ref fL))) (lL : K.lookup fL = some ⟨oc, od, .func (PySem.W.fnOf "law" "law" (defArgs sLaw) (defBody sLaw) (defScope sLaw) .none kV dc pm an cd ct), sl⟩) (cL : PySem.W.codeIn K cd "law" = true) (kL : PySem.W.keepIn K (.ref fL) = true) :
    ∃ fd : FuncData, (∀ (s : Shared) (v : Value), BindsTo s fd ⟨[v], []⟩ [("_law_script", v)]) ∧ ∀ base : Heap, K.In base → base.Ns mainGlobals mg → FnOk l.prog w K mg base CX0 91 fa fd ["_law_script"] (spLaw K) := by
  have e := hfa.symm.trans (PySem.W.mg_of X G aL)
  cases e
  have F := fun_mk (st := sLaw) lL cL kL
  exact ⟨PySem.W.fnOf "law" "law" (defArgs sLaw) (defBody sLaw) (defScope sLaw) .none kV dc pm an cd ct, fun s v => .of_eq rfl, fun base _ _ => ok_law T F⟩
theorem the_walk {l : PySem.W.OpenLaw} {q : Program} {loose : List Str} {XP : (Str → Option Value) → Heap → Prop} {YP : World → Heap → Prop} {d : DefRec} {K : Params → PySem.W.Frag} (hn : l.most = some 63) (hdf : d.params.defaults = [])
    (hY : ∀ (w : World) (h : Heap), YP w h → (K w.params).In h)
    (F : ∀ (w : World) (mg : Str → Option Value) (fa : Addr) (h : Heap), (K w.params).In h → h.Ns mainGlobals mg → mg d.name = some (.ref fa) →
      ∃ fd : FuncData, (∀ (s : Shared) (u : Value), BindsTo s fd ⟨[u], []⟩ [("_law_script", u)]) ∧ ∀ base : Heap, (K w.params).In base → base.Ns mainGlobals mg → FnOk l.prog w (K w.params) mg base CX0 91 fa fd ["_law_script"] (spLaw (K w.params))) :
    PySem.W.WalkO q loose XP YP l.row.toRowW d [] (fun f vs => PySem.call f vs) :=
  L2.walk_of (n := 63) (k := 91) (x := "_law_script") (CX := fun _ => CX0) (sp := fun w => spLaw (K w.params)) hn (by decide) hdf ⟨rfl, by decide, by decide⟩ hY F (fun _ _ a ns hl _ hS => ⟨a, ns, rfl, hS, hl, fun _ => rfl⟩) fun _ _ _ _ _ z => z
end WK
open PySem PySem.W PyProof.Rows
set_option maxRecDepth 100000 in
set_option maxHeartbeats 0 in
theorem PySem.Challenge.cw_turnery_k35_whole_common_stumps_holds : PySem.Challenge.rw_turnery_k35_whole_common_stumps.Holds := by
  w_on; o_law; k_head; (case hw => w_witness2)
  k_fill
  refine WK.the_walk (l := PySem.Challenge.rw_turnery_k35_whole_common_stumps) rfl rfl (fun w h Y => PySem.W.kIn_of Y) ?F
  case F =>
    intro w mg fa h KX G hmg
    refine' WK.law_mk KX G hmg (WK.tx_mk KX G ?a0 ?l0 ?c0 ?k0 ?a1 ?l1 ?c1 ?k1 ?a2 ?l2 ?c2 ?k2 ?a3 ?l3 ?c3 ?k3 ?a4 ?l4 ?c4 ?k4 ?a5 ?l5 ?c5 ?k5 ?a6 ?l6 ?c6 ?k6 ?a7 ?l7 ?c7 ?k7 ?a8 ?l8 ?c8 ?k8 ?a9 ?l9 ?c9 ?k9 ?a10 ?l10 ?c10 ?k10 ?a11 ?l11 ?c11 ?k11 ?a12 ?l12 ?c12 ?k12 ?a13 ?l13 ?c13 ?k13 ?a14 ?l14 ?c14 ?k14 ?a15 ?l15 ?c15 ?k15 ?a16 ?l16 ?c16 ?k16 ?a17 ?l17 ?c17 ?k17 ?a18 ?l18 ?c18 ?k18 ?a19 ?l19 ?c19 ?k19 ?a20 ?l20 ?c20 ?k20 ?a21 ?l21 ?c21 ?k21 ?a22 ?l22 ?c22 ?k22 ?a23 ?l23 ?c23 ?k23 ?a24 ?l24 ?c24 ?k24 ?a25 ?l25 ?c25 ?k25 ?a26 ?l26 ?c26 ?k26 ?a27 ?l27 ?c27 ?k27 ?a28 ?l28 ?c28 ?k28 ?a29 ?l29 ?c29 ?k29 ?a30 ?l30 ?c30 ?k30 ?a31 ?l31 ?c31 ?k31 ?a32 ?l32 ?c32 ?k32 ?a33 ?l33 ?c33 ?k33 ?a34 ?l34 ?c34 ?k34 ?a35 ?l35 ?c35 ?k35 ?a36 ?l36 ?c36 ?k36 ?a37 ?l37 ?c37 ?k37 ?a38 ?l38 ?c38 ?k38 ?a39 ?l39 ?c39 ?k39 ?a40 ?l40 ?c40 ?k40 ?a41 ?l41 ?c41 ?k41 ?a42 ?l42 ?c42 ?k42 ?a43 ?l43 ?c43 ?k43 ?a44 ?l44 ?c44 ?k44 ?a45 ?l45 ?c45 ?k45 ?z_len ?z_tuple ?z_zip ?z_enumerate ?z_list ?z_range ?z_isinstance ?z_int ?z_bool ?z_str ?z_min ?z_sum ?z_sorted ?z_reversed) ?aL ?lL ?cL ?kL
    (case a0 => k_is); (case l0 => k_is); (case c0 => k_is); (case k0 => k_is)
    (case a1 => k_is); (case l1 => k_is); (case c1 => k_is); (case k1 => k_is)
    (case a2 => k_is); (case l2 => k_is); (case c2 => k_is); (case k2 => k_is)
    (case a3 => k_is); (case l3 => k_is); (case c3 => k_is); (case k3 => k_is)
    (case a4 => k_is); (case l4 => k_is); (case c4 => k_is); (case k4 => k_is)
    (case a5 => k_is); (case l5 => k_is); (case c5 => k_is); (case k5 => k_is)
    (case a6 => k_is); (case l6 => k_is); (case c6 => k_is); (case k6 => k_is)
    (case a7 => k_is); (case l7 => k_is); (case c7 => k_is); (case k7 => k_is)
    (case a8 => k_is); (case l8 => k_is); (case c8 => k_is); (case k8 => k_is)
    (case a9 => k_is); (case l9 => k_is); (case c9 => k_is); (case k9 => k_is)
    (case a10 => k_is); (case l10 => k_is); (case c10 => k_is); (case k10 => k_is)
    (case a11 => k_is); (case l11 => k_is); (case c11 => k_is); (case k11 => k_is)
    (case a12 => k_is); (case l12 => k_is); (case c12 => k_is); (case k12 => k_is)
    (case a13 => k_is); (case l13 => k_is); (case c13 => k_is); (case k13 => k_is)
    (case a14 => k_is); (case l14 => k_is); (case c14 => k_is); (case k14 => k_is)
    (case a15 => k_is); (case l15 => k_is); (case c15 => k_is); (case k15 => k_is)
    (case a16 => k_is); (case l16 => k_is); (case c16 => k_is); (case k16 => k_is)
    (case a17 => k_is); (case l17 => k_is); (case c17 => k_is); (case k17 => k_is)
    (case a18 => k_is); (case l18 => k_is); (case c18 => k_is); (case k18 => k_is)
    (case a19 => k_is); (case l19 => k_is); (case c19 => k_is); (case k19 => k_is)
    (case a20 => k_is); (case l20 => k_is); (case c20 => k_is); (case k20 => k_is)
    (case a21 => k_is); (case l21 => k_is); (case c21 => k_is); (case k21 => k_is)
    (case a22 => k_is); (case l22 => k_is); (case c22 => k_is); (case k22 => k_is)
    (case a23 => k_is); (case l23 => k_is); (case c23 => k_is); (case k23 => k_is)
    (case a24 => k_is); (case l24 => k_is); (case c24 => k_is); (case k24 => k_is)
    (case a25 => k_is); (case l25 => k_is); (case c25 => k_is); (case k25 => k_is)
    (case a26 => k_is); (case l26 => k_is); (case c26 => k_is); (case k26 => k_is)
    (case a27 => k_is); (case l27 => k_is); (case c27 => k_is); (case k27 => k_is)
    (case a28 => k_is); (case l28 => k_is); (case c28 => k_is); (case k28 => k_is)
    (case a29 => k_is); (case l29 => k_is); (case c29 => k_is); (case k29 => k_is)
    (case a30 => k_is); (case l30 => k_is); (case c30 => k_is); (case k30 => k_is)
    (case a31 => k_is); (case l31 => k_is); (case c31 => k_is); (case k31 => k_is)
    (case a32 => k_is); (case l32 => k_is); (case c32 => k_is); (case k32 => k_is)
    (case a33 => k_is); (case l33 => k_is); (case c33 => k_is); (case k33 => k_is)
    (case a34 => k_is); (case l34 => k_is); (case c34 => k_is); (case k34 => k_is)
    (case a35 => k_is); (case l35 => k_is); (case c35 => k_is); (case k35 => k_is)
    (case a36 => k_is); (case l36 => k_is); (case c36 => k_is); (case k36 => k_is)
    (case a37 => k_is); (case l37 => k_is); (case c37 => k_is); (case k37 => k_is)
    (case a38 => k_is); (case l38 => k_is); (case c38 => k_is); (case k38 => k_is)
    (case a39 => k_is); (case l39 => k_is); (case c39 => k_is); (case k39 => k_is)
    (case a40 => k_is); (case l40 => k_is); (case c40 => k_is); (case k40 => k_is)
    (case a41 => k_is); (case l41 => k_is); (case c41 => k_is); (case k41 => k_is)
    (case a42 => k_is); (case l42 => k_is); (case c42 => k_is); (case k42 => k_is)
    (case a43 => k_is); (case l43 => k_is); (case c43 => k_is); (case k43 => k_is)
    (case a44 => k_is); (case l44 => k_is); (case c44 => k_is); (case k44 => k_is)
    (case a45 => k_is); (case l45 => k_is); (case c45 => k_is); (case k45 => k_is)
    (case aL => k_is); (case lL => k_is); (case cL => k_is); (case kL => k_is)
    (case z_len => k_is)
    (case z_tuple => k_is)
    (case z_zip => k_is)
    (case z_enumerate => k_is)
    (case z_list => k_is)
    (case z_range => k_is)
    (case z_isinstance => k_is)
    (case z_int => k_is)
    (case z_bool => k_is)
    (case z_str => k_is)
    (case z_min => k_is)
    (case z_sum => k_is)
    (case z_sorted => k_is)
    (case z_reversed => k_is)
