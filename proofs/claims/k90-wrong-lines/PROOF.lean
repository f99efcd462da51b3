import PyProof.Rows.All
import HandS.ForMost
import HandS.ForExc
import HandS.IsInst
import HandS.Style
import HandS.Flow
import HandS.Deep
import HandS.Wide
import HandS.WideBits
import HandS.Codes
import HandS.HeadNt
import HandS.Text
import KE.KExcSuper
import HandS.Nested
import HandS.ExcInit
import HandS.ExcField
import HandS.Defaults
import HandS.TryOnly
import HandS.ExcOwn
import HandS.Dict
import HandS.WordsExc
import HandS.Ends
import HandS.HeadHook1
import HandS.HeadHook2
import HandS.HeadEnd
import HandS.Head2
import PySem.Challenge.RW_planescut_k90_whole_wrong_lines_of_arran
set_option Elab.async false
set_option linter.all false
set_option maxRecDepth 100000
set_option autoImplicit false
/-! DL1: the data level, its core: data in the abstract heap, slots that hold data or own lists, what an expression and a statement do at that level. -/
namespace DL
open PySem PySem.Spec PyProof.Rows L2
abbrev St := L2.St

/-! ### data in the abstract heap -/
mutual
def Rp (K : PySem.W.Frag) (H : Hp) : PyData → V → Prop
  | .none, v => v = .non
  | .bool b, v => v = .bl b
  | .int i, v => v = .int i
  | .str x, v => v = .str x
  | .list ds, v => ∃ a xs, v = .ref a ∧ SqL K H a xs ∧ RpL K H ds xs
  | .tuple ds, v => ∃ a xs, v = .ref a ∧ SqT K H a xs ∧ RpL K H ds xs
  | .dict _, _ => False
def RpL (K : PySem.W.Frag) (H : Hp) : List PyData → List V → Prop
  | [], xs => xs = []
  | d :: ds, xs => ∃ x r, xs = x :: r ∧ Rp K H d x ∧ RpL K H ds r
end
section
variable {K : PySem.W.Frag} {H H' : Hp}
theorem sql_mono (s : Same H H') {a : Addr} {xs : List V} (h : SqL K H a xs) : SqL K H' a xs := by
  rcases h with (h | ⟨o, h⟩) | h
  · exact .inl (.inl (s _ _ h))
  · exact .inl (.inr ⟨o, s _ _ h⟩)
  · exact .inr h
theorem sqt_mono (s : Same H H') {a : Addr} {xs : List V} (h : SqT K H a xs) : SqT K H' a xs := by
  rcases h with (h | ⟨o, h⟩) | h
  · exact .inl (.inl (s _ _ h))
  · exact .inl (.inr ⟨o, s _ _ h⟩)
  · exact .inr h
mutual
theorem Rp.mono (s : Same H H') : ∀ {d : PyData} {v : V}, Rp K H d v → Rp K H' d v
  | .none, v, h => by unfold Rp at h ⊢; exact h
  | .bool b, v, h => by unfold Rp at h ⊢; exact h
  | .int i, v, h => by unfold Rp at h ⊢; exact h
  | .str x, v, h => by unfold Rp at h ⊢; exact h
  | .list ds, v, h => by
    unfold Rp at h ⊢
    obtain ⟨a, xs, e, ha, r⟩ := h
    exact ⟨a, xs, e, sql_mono s ha, RpL.mono s r⟩
  | .tuple ds, v, h => by
    unfold Rp at h ⊢
    obtain ⟨a, xs, e, ha, r⟩ := h
    exact ⟨a, xs, e, sqt_mono s ha, RpL.mono s r⟩
  | .dict _, v, h => by unfold Rp at h; exact h.elim
theorem RpL.mono (s : Same H H') : ∀ {ds : List PyData} {xs : List V}, RpL K H ds xs → RpL K H' ds xs
  | [], xs, h => by unfold RpL at h ⊢; exact h
  | d :: ds, xs, h => by
    unfold RpL at h ⊢
    obtain ⟨x, r, e, h1, h2⟩ := h
    exact ⟨x, r, e, Rp.mono s h1, RpL.mono s h2⟩
end
theorem rp_non {v : V} : Rp K H .none v ↔ v = .non := by unfold Rp; exact Iff.rfl
theorem rp_bl {b : Bool} {v : V} : Rp K H (.bool b) v ↔ v = .bl b := by unfold Rp; exact Iff.rfl
theorem rp_int {i : Int} {v : V} : Rp K H (.int i) v ↔ v = .int i := by unfold Rp; exact Iff.rfl
theorem rp_str {x : Str} {v : V} : Rp K H (.str x) v ↔ v = .str x := by unfold Rp; exact Iff.rfl
theorem rp_lst {ds : List PyData} {v : V} : Rp K H (.list ds) v ↔ ∃ a xs, v = .ref a ∧ SqL K H a xs ∧ RpL K H ds xs := by
  constructor
  · intro h; unfold Rp at h; exact h
  · intro h; unfold Rp; exact h
theorem rp_tup {ds : List PyData} {v : V} : Rp K H (.tuple ds) v ↔ ∃ a xs, v = .ref a ∧ SqT K H a xs ∧ RpL K H ds xs := by
  constructor
  · intro h; unfold Rp at h; exact h
  · intro h; unfold Rp; exact h
theorem rpl_nil {xs : List V} : RpL K H [] xs ↔ xs = [] := by unfold RpL; exact Iff.rfl
theorem rpl_cons {d : PyData} {ds : List PyData} {xs : List V} : RpL K H (d :: ds) xs ↔ ∃ x r, xs = x :: r ∧ Rp K H d x ∧ RpL K H ds r := by
  constructor
  · intro h; unfold RpL at h; exact h
  · intro h; unfold RpL; exact h
theorem RpL.cons {d : PyData} {ds : List PyData} {x : V} {r : List V} (h1 : Rp K H d x) (h2 : RpL K H ds r) : RpL K H (d :: ds) (x :: r) := rpl_cons.mpr ⟨x, r, rfl, h1, h2⟩
theorem RpL.nil : RpL K H [] [] := rpl_nil.mpr rfl
theorem RpL.len : ∀ {ds : List PyData} {xs : List V}, RpL K H ds xs → xs.length = ds.length
  | [], xs, h => by rw [rpl_nil.mp h]; rfl
  | d :: ds, xs, h => by
    obtain ⟨x, r, rfl, _, h2⟩ := rpl_cons.mp h
    rw [List.length_cons, List.length_cons, RpL.len h2]
theorem RpL.get : ∀ {ds : List PyData} {xs : List V} {i : Nat} {d : PyData}, RpL K H ds xs → ds[i]? = some d → ∃ x, xs[i]? = some x ∧ Rp K H d x
  | [], _, _, _, _, e => by simp at e
  | d :: ds, xs, 0, d', h, e => by
    obtain ⟨x, r, rfl, h1, _⟩ := rpl_cons.mp h
    have : d = d' := by simpa using e
    subst this
    exact ⟨x, rfl, h1⟩
  | d :: ds, xs, i + 1, d', h, e => by
    obtain ⟨x, r, rfl, _, h2⟩ := rpl_cons.mp h
    obtain ⟨y, q1, q2⟩ := RpL.get (i := i) (d := d') h2 (by simpa using e)
    exact ⟨y, by simpa using q1, q2⟩
theorem RpL.getV {ds : List PyData} {xs : List V} {i : Nat} {x : V} (h : RpL K H ds xs) (e : xs[i]? = some x) : ∃ d, ds[i]? = some d ∧ Rp K H d x := by
  have hi : i < ds.length := by
    rw [← h.len]
    exact (List.getElem?_eq_some_iff.mp e).1
  obtain ⟨y, q1, q2⟩ := h.get (List.getElem?_eq_getElem hi)
  rw [e] at q1
  cases q1
  exact ⟨_, List.getElem?_eq_getElem hi, q2⟩
theorem RpL.append : ∀ {ds es : List PyData} {xs ys : List V}, RpL K H ds xs → RpL K H es ys → RpL K H (ds ++ es) (xs ++ ys)
  | [], es, xs, ys, h, h' => by rw [rpl_nil.mp h]; exact h'
  | d :: ds, es, xs, ys, h, h' => by
    obtain ⟨x, r, rfl, h1, h2⟩ := rpl_cons.mp h
    exact RpL.cons h1 (RpL.append h2 h')
theorem RpL.one {d : PyData} {x : V} (h : Rp K H d x) : RpL K H [d] [x] := RpL.cons h RpL.nil
theorem RpL.take : ∀ {ds : List PyData} {xs : List V} (n : Nat), RpL K H ds xs → RpL K H (ds.take n) (xs.take n)
  | [], xs, n, h => by rw [rpl_nil.mp h]; simp; exact RpL.nil
  | d :: ds, xs, 0, h => by simp; exact RpL.nil
  | d :: ds, xs, n + 1, h => by
    obtain ⟨x, r, rfl, h1, h2⟩ := rpl_cons.mp h
    exact RpL.cons h1 (RpL.take n h2)
theorem RpL.drop : ∀ {ds : List PyData} {xs : List V} (n : Nat), RpL K H ds xs → RpL K H (ds.drop n) (xs.drop n)
  | ds, xs, 0, h => h
  | [], xs, n + 1, h => by rw [rpl_nil.mp h]; exact RpL.nil
  | d :: ds, xs, n + 1, h => by
    obtain ⟨x, r, rfl, h1, h2⟩ := rpl_cons.mp h
    exact RpL.drop n h2
theorem RpL.reverse : ∀ {ds : List PyData} {xs : List V}, RpL K H ds xs → RpL K H ds.reverse xs.reverse
  | [], xs, h => by rw [rpl_nil.mp h]; exact RpL.nil
  | d :: ds, xs, h => by
    obtain ⟨x, r, rfl, h1, h2⟩ := rpl_cons.mp h
    rw [List.reverse_cons, List.reverse_cons]
    exact RpL.append (RpL.reverse h2) (RpL.one h1)
theorem RpL.set : ∀ {ds : List PyData} {xs : List V} (i : Nat) {d : PyData} {x : V}, RpL K H ds xs → Rp K H d x → RpL K H (ds.set i d) (xs.set i x)
  | [], xs, _, _, _, h, _ => by rw [rpl_nil.mp h]; exact RpL.nil
  | d :: ds, xs, 0, _, _, h, g => by
    obtain ⟨y, r, rfl, h1, h2⟩ := rpl_cons.mp h
    exact RpL.cons g h2
  | d :: ds, xs, i + 1, _, _, h, g => by
    obtain ⟨y, r, rfl, h1, h2⟩ := rpl_cons.mp h
    exact RpL.cons h1 (RpL.set i h2 g)
theorem RpL.eraseIdx : ∀ {ds : List PyData} {xs : List V} (i : Nat), RpL K H ds xs → RpL K H (ds.eraseIdx i) (xs.eraseIdx i)
  | [], xs, _, h => by rw [rpl_nil.mp h]; exact RpL.nil
  | d :: ds, xs, 0, h => by
    obtain ⟨y, r, rfl, h1, h2⟩ := rpl_cons.mp h
    exact h2
  | d :: ds, xs, i + 1, h => by
    obtain ⟨y, r, rfl, h1, h2⟩ := rpl_cons.mp h
    exact RpL.cons h1 (RpL.eraseIdx i h2)
theorem RpL.ints : ∀ (ns : List Int), RpL K H (ns.map .int) (ns.map V.int)
  | [] => RpL.nil
  | n :: ns => RpL.cons (rp_int.mpr rfl) (RpL.ints ns)
theorem RpL.strs : ∀ (ns : List Str), RpL K H (ns.map .str) (ns.map V.str)
  | [] => RpL.nil
  | n :: ns => RpL.cons (rp_str.mpr rfl) (RpL.strs ns)
theorem RpL.ints_inv : ∀ {ns : List Int} {xs : List V}, RpL K H (ns.map .int) xs → xs = ns.map V.int
  | [], xs, h => rpl_nil.mp h
  | n :: ns, xs, h => by
    obtain ⟨y, r, rfl, h1, h2⟩ := rpl_cons.mp h
    rw [rp_int.mp h1, RpL.ints_inv h2]
    rfl
theorem RpL.strs_inv : ∀ {ns : List Str} {xs : List V}, RpL K H (ns.map .str) xs → xs = ns.map V.str
  | [], xs, h => rpl_nil.mp h
  | n :: ns, xs, h => by
    obtain ⟨y, r, rfl, h1, h2⟩ := rpl_cons.mp h
    rw [rp_str.mp h1, RpL.strs_inv h2]
    rfl
theorem RpL.bls_inv : ∀ {ns : List Bool} {xs : List V}, RpL K H (ns.map .bool) xs → xs = ns.map V.bl
  | [], xs, h => rpl_nil.mp h
  | n :: ns, xs, h => by
    obtain ⟨y, r, rfl, h1, h2⟩ := rpl_cons.mp h
    rw [rp_bl.mp h1, RpL.bls_inv h2]
    rfl
mutual
theorem Rp.dp : ∀ {d : PyData} {v : V}, Rp K H d v → Dp K H v d
  | .none, v, h => by rw [rp_non.mp h]; exact .non
  | .bool b, v, h => by rw [rp_bl.mp h]; exact .bl b
  | .int i, v, h => by rw [rp_int.mp h]; exact .int i
  | .str x, v, h => by rw [rp_str.mp h]; exact .str x
  | .list ds, v, h => by
    obtain ⟨a, xs, e, ha, r⟩ := rp_lst.mp h
    rw [e]
    exact .lst ha (RpL.dp r)
  | .tuple ds, v, h => by
    obtain ⟨a, xs, e, ha, r⟩ := rp_tup.mp h
    rw [e]
    exact .tup ha (RpL.dp r)
  | .dict _, v, h => by unfold Rp at h; exact h.elim
theorem RpL.dp : ∀ {ds : List PyData} {xs : List V}, RpL K H ds xs → DpAll K H xs ds
  | [], xs, h => by rw [rpl_nil.mp h]; exact .nil
  | d :: ds, xs, h => by
    obtain ⟨x, r, e, h1, h2⟩ := rpl_cons.mp h
    rw [e]
    exact .cons (Rp.dp h1) (RpL.dp h2)
end
end
/-- flat data: no object stands for it -/
def flatD : PyData → Bool
  | .none => true | .bool _ => true | .int _ => true | .str _ => true | _ => false
theorem Rp.flat {K : PySem.W.Frag} {H H' : Hp} {d : PyData} {v : V} (f : flatD d = true) (h : Rp K H d v) : Rp K H' d v := by
  cases d with
  | none => exact rp_non.mpr (rp_non.mp h)
  | bool b => exact rp_bl.mpr (rp_bl.mp h)
  | int i => exact rp_int.mpr (rp_int.mp h)
  | str x => exact rp_str.mpr (rp_str.mp h)
  | list _ => cases f
  | tuple _ => cases f
  | dict _ => cases f

/-! ### hidden addresses -/
open Classical in
noncomputable def hide (p : Addr → Prop) (H : Hp) : Hp := fun b => if p b then none else H b
theorem hide_some {p : Addr → Prop} {H : Hp} {b : Addr} {o : HO} : hide p H b = some o ↔ ¬ p b ∧ H b = some o := by
  unfold hide
  split
  · exact ⟨fun h => (nomatch h), fun h => absurd (by assumption) h.1⟩
  · exact ⟨fun h => ⟨by assumption, h⟩, fun h => h.2⟩
theorem hide_same {p : Addr → Prop} {H H' : Hp} (s : Same H H') : Same (hide p H) (hide p H') := fun b o h => hide_some.mpr ⟨(hide_some.mp h).1, s _ _ (hide_some.mp h).2⟩
theorem hide_le {p : Addr → Prop} {H : Hp} : Same (hide p H) H := fun b o h => (hide_some.mp h).2
theorem hide_anti {p q : Addr → Prop} {H : Hp} (h : ∀ b, q b → p b) : Same (hide p H) (hide q H) := fun b o e => hide_some.mpr ⟨fun z => (hide_some.mp e).1 (h b z), (hide_some.mp e).2⟩
theorem hide_upd {p : Addr → Prop} {H : Hp} {a : Addr} {o : HO} (h : p a) : hide p (upd H a o) = hide p H := by
  funext b
  unfold hide
  split
  · rfl
  · rw [upd_ne (fun z => by subst z; contradiction)]
theorem same_new {H : Hp} {p : Addr} {o : HO} (h : H p = none) : Same H (upd H p o) := fun b x e => by
  rw [upd_ne (ne_of_none e h)]
  exact e

/-! ### slots -/
/-- what a slot holds: nothing that is told, data, a list that the def made and alone holds, the one list that was handed in to be changed -/
inductive SD where
  | un | dt (d : PyData) | ow (xs : List PyData) | pw (xs : List PyData)
/-- a value's data -/
def SD.dat : SD → PyData
  | .un => .none | .dt d => d | .ow xs => .list xs | .pw xs => .list xs
/-- a def's frame: what is hidden from it, the list that is handed in to be changed, the heap at its entry -/
structure Fm where
  K : PySem.W.Frag
  B : Addr → Prop
  T : Option Addr
  H0 : Hp
def hp (F : Fm) (S : List (Option Addr)) (b : Addr) : Prop := F.B b ∨ some b ∈ S
noncomputable abbrev hid (F : Fm) (S : List (Option Addr)) (H : Hp) : Hp := hide (hp F S) H
def SlotR (F : Fm) (S : List (Option Addr)) (H : Hp) (r : SD) (s : Option (Option Addr)) (x : Option (Option V)) : Prop := match r with
  | .un => s = some none
  | .dt d => s = some none ∧ ∃ v, x = some (some v) ∧ Rp F.K (hid F S H) d v
  | .ow xs => ∃ a vs, s = some (some a) ∧ F.H0 a = none ∧ x = some (some (.ref a)) ∧ H a = some (.lst vs) ∧ RpL F.K (hid F S H) xs vs
  | .pw xs => ∃ a vs, s = some (some a) ∧ F.T = some a ∧ x = some (some (.ref a)) ∧ H a = some (.lst vs) ∧ RpL F.K (hid F S H) xs vs
structure En (F : Fm) (S : List (Option Addr)) (σ : St) (H : Hp) (ρ : List SD) : Prop where
  len : ρ.length = σ.length
  lenS : ρ.length ≤ S.length
  bf : ∀ b, F.B b → F.H0 b ≠ none ∧ F.T ≠ some b
  fr : ∀ b o, F.H0 b = some o → F.T ≠ some b → H b = some o
  inj : ∀ (i j : Nat) (a : Addr), S[i]? = some (some a) → S[j]? = some (some a) → i = j
  tw : ∀ (a : Addr), F.T = some a → ∃ (i : Nat) (xs : List PyData), ρ[i]? = some (.pw xs) ∧ S[i]? = some (some a)
  an : ∀ (i : Nat) (a : Addr), ρ[i]? = none → S[i]? = some (some a) → F.H0 a = none ∧ ∃ vs, H a = some (.lst vs)
  at_ : ∀ (i : Nat) (r : SD), ρ[i]? = some r → SlotR F S H r (S[i]?) (σ[i]?)
section
variable {F : Fm} {S : List (Option Addr)} {σ : St} {H H' : Hp} {ρ : List SD}
theorem SlotR.mono {r : SD} {s : Option (Option Addr)} {x : Option (Option V)} (e : Same H H') (h : SlotR F S H r s x) : SlotR F S H' r s x := by
  cases r with
  | un => exact h
  | dt d => obtain ⟨h1, v, h2, h3⟩ := h; exact ⟨h1, v, h2, h3.mono (hide_same e)⟩
  | ow xs => obtain ⟨a, vs, h1, h2, h3, h4, h5⟩ := h; exact ⟨a, vs, h1, h2, h3, e _ _ h4, h5.mono (hide_same e)⟩
  | pw xs => obtain ⟨a, vs, h1, h2, h3, h4, h5⟩ := h; exact ⟨a, vs, h1, h2, h3, e _ _ h4, h5.mono (hide_same e)⟩
/-- another hidden part, the slots' own addresses as they are -/
theorem SlotR.rehide {S' : List (Option Addr)} {r : SD} {s : Option (Option Addr)} {x : Option (Option V)} (e : Same (hid F S H) (hid F S' H')) (eo : ∀ a vs, s = some (some a) → H a = some (.lst vs) → H' a = some (.lst vs)) (h : SlotR F S H r s x) : SlotR F S' H' r s x := by
  cases r with
  | un => exact h
  | dt d => obtain ⟨h1, v, h2, h3⟩ := h; exact ⟨h1, v, h2, h3.mono e⟩
  | ow xs => obtain ⟨a, vs, h1, h2, h3, h4, h5⟩ := h; exact ⟨a, vs, h1, h2, h3, eo _ _ h1 h4, h5.mono e⟩
  | pw xs => obtain ⟨a, vs, h1, h2, h3, h4, h5⟩ := h; exact ⟨a, vs, h1, h2, h3, eo _ _ h1 h4, h5.mono e⟩
theorem En.ext (E : En F S σ H ρ) (e : Same H H') : En F S σ H' ρ :=
  ⟨E.len, E.lenS, E.bf, fun b o h1 h2 => e _ _ (E.fr b o h1 h2), E.inj, E.tw, fun i a h1 h2 => ⟨(E.an i a h1 h2).1, let ⟨vs, q⟩ := (E.an i a h1 h2).2; ⟨vs, e _ _ q⟩⟩, fun i r h => (E.at_ i r h).mono e⟩
/-- a slot's address is tracked -/
theorem En.own (E : En F S σ H ρ) {a : Addr} (h : some a ∈ S) : (F.H0 a = none ∨ F.T = some a) ∧ ∃ vs, H a = some (.lst vs) := by
  obtain ⟨i, hi⟩ := List.mem_iff_getElem?.mp h
  cases hr : ρ[i]? with
  | none =>
    obtain ⟨h1, h2⟩ := E.an i a hr hi
    exact ⟨.inl h1, h2⟩
  | some r =>
    have q := E.at_ i _ hr
    cases r with
    | un => have q' : S[i]? = some none := q; rw [hi] at q'; cases q'
    | dt d => obtain ⟨q', _⟩ := q; rw [hi] at q'; cases q'
    | ow xs =>
      obtain ⟨b, vs, h1, h2, h3, h4, h5⟩ := q
      rw [hi] at h1; cases h1
      exact ⟨.inl h2, vs, h4⟩
    | pw xs =>
      obtain ⟨b, vs, h1, h2, h3, h4, h5⟩ := q
      rw [hi] at h1; cases h1
      exact ⟨.inr h2, vs, h4⟩
theorem En.hid_there (E : En F S σ H ρ) {b : Addr} (h : hp F S b) : H b ≠ none := by
  rcases h with h | h
  · obtain ⟨h1, h2⟩ := E.bf b h
    cases e : F.H0 b with
    | none => exact absurd e h1
    | some o => rw [E.fr b o e h2]; exact fun z => nomatch z
  · obtain ⟨_, vs, h4⟩ := E.own h
    rw [h4]; exact fun z => nomatch z
theorem En.new (E : En F S σ H ρ) {p : Addr} (h : H p = none) : ¬ hp F S p := fun z => E.hid_there z h
theorem En.dom (E : En F S σ H ρ) {b : Addr} (h : H b = none) : F.H0 b = none := by
  cases e : F.H0 b with
  | none => rfl
  | some o =>
    by_cases ht : F.T = some b
    · obtain ⟨i, xs, _, hs⟩ := E.tw b ht
      exact absurd h (E.hid_there (.inr (List.mem_of_getElem? hs)))
    · rw [E.fr b o e ht] at h; cases h
theorem En.grow (E : En F S σ H ρ) {σ' : St} {ρ' : List SD} (E' : En F S σ' H' ρ') (e : Same (hid F S H) (hid F S H')) {b : Addr} (h : H' b = none) : H b = none := by
  cases q : H b with
  | none => rfl
  | some o =>
    by_cases hb : hp F S b
    · exact absurd h (E'.hid_there hb)
    · have z := hide_le _ _ (e b o (hide_some.mpr ⟨hb, q⟩))
      rw [h] at z; cases z
theorem hp_snoc {p b : Addr} : hp F (S ++ [some p]) b ↔ hp F S b ∨ b = p := by
  unfold hp
  constructor
  · rintro (h | h)
    · exact .inl (.inl h)
    · rcases List.mem_append.mp h with h | h
      · exact .inl (.inr h)
      · exact .inr (Option.some.inj (List.mem_singleton.mp h))
  · rintro ((h | h) | h)
    · exact .inl h
    · exact .inr (List.mem_append_left _ h)
    · exact .inr (List.mem_append_right _ (by rw [h]; exact List.mem_singleton.mpr rfl))
/-- a new list, nobody's -/
theorem En.anon (E : En F S σ H ρ) {p : Addr} {vs : List V} (h : H p = none) : En F (S ++ [some p]) σ (upd H p (.lst vs)) ρ := by
  have hn := E.new h
  have e : Same (hid F S H) (hid F (S ++ [some p]) (upd H p (.lst vs))) := fun b o q => by
    obtain ⟨q1, q2⟩ := hide_some.mp q
    refine hide_some.mpr ⟨fun z => ?_, same_new h _ _ q2⟩
    rcases hp_snoc.mp z with z | z
    · exact q1 z
    · rw [z, h] at q2; cases q2
  have at' : ∀ {i : Nat}, i < ρ.length → (S ++ [some p])[i]? = S[i]? := fun {i} hi => List.getElem?_append_left (Nat.lt_of_lt_of_le hi E.lenS)
  have notIn : ∀ i, S[i]? ≠ some (some p) := fun i z => hn (.inr (List.mem_of_getElem? z))
  have split : ∀ {i : Nat} {a : Addr}, (S ++ [some p])[i]? = some (some a) → S[i]? = some (some a) ∨ (i = S.length ∧ a = p) := fun {i a} z => by
    by_cases hi : i < S.length
    · rw [List.getElem?_append_left hi] at z; exact .inl z
    · rw [List.getElem?_append_right (Nat.le_of_not_lt hi)] at z
      have h0 : i - S.length = 0 := by
        cases q : i - S.length with
        | zero => rfl
        | succ n => rw [q] at z; simp at z
      rw [h0] at z
      have z' : p = a := by simpa using z
      exact .inr ⟨by omega, z'.symm⟩
  refine ⟨E.len, by rw [List.length_append]; exact Nat.le_trans E.lenS (Nat.le_add_right _ _), E.bf, fun b o h1 h2 => same_new h _ _ (E.fr b o h1 h2), ?_, ?_, ?_, ?_⟩
  · intro i j a h1 h2
    rcases split h1 with g1 | ⟨g1, e1⟩ <;> rcases split h2 with g2 | ⟨g2, e2⟩
    · exact E.inj i j a g1 g2
    · rw [e2] at g1; exact absurd g1 (notIn i)
    · rw [e1] at g2; exact absurd g2 (notIn j)
    · rw [g1, g2]
  · intro a ht
    obtain ⟨i, xs, h1, h2⟩ := E.tw a ht
    exact ⟨i, xs, h1, by rw [at' (List.getElem?_eq_some_iff.mp h1).1]; exact h2⟩
  · intro i a h1 h2
    rcases split h2 with h2 | ⟨_, e2⟩
    · obtain ⟨q1, ws, q2⟩ := E.an i a h1 h2
      exact ⟨q1, ws, same_new h _ _ q2⟩
    · subst e2; exact ⟨E.dom h, vs, upd_same⟩
  · intro i r hr
    rw [at' (List.getElem?_eq_some_iff.mp hr).1]
    exact (E.at_ i r hr).rehide e fun a ws _ q => same_new h _ _ q
/-- .. forgotten: it may be anybody's -/
theorem En.unanon {p : Addr} (E : En F (S ++ [some p]) σ H ρ) (hl : ρ.length ≤ S.length) : En F S σ H ρ := by
  have e : Same (hid F (S ++ [some p]) H) (hid F S H) := hide_anti fun b z => hp_snoc.mpr (.inl z)
  have at' : ∀ {i : Nat}, i < ρ.length → (S ++ [some p])[i]? = S[i]? := fun {i} hi => List.getElem?_append_left (Nat.lt_of_lt_of_le hi hl)
  have up : ∀ {i : Nat} {a : Addr}, S[i]? = some (some a) → (S ++ [some p])[i]? = some (some a) := fun {i a} z => by rw [List.getElem?_append_left (List.getElem?_eq_some_iff.mp z).1]; exact z
  refine ⟨E.len, hl, E.bf, E.fr, fun i j a h1 h2 => E.inj i j a (up h1) (up h2), fun a ht => ?_, fun i a h1 h2 => E.an i a h1 (up h2), fun i r hr => ?_⟩
  · obtain ⟨i, xs, h1, h2⟩ := E.tw a ht
    exact ⟨i, xs, h1, by rw [at' (List.getElem?_eq_some_iff.mp h1).1] at h2; exact h2⟩
  · have q := E.at_ i r hr
    rw [at' (List.getElem?_eq_some_iff.mp hr).1] at q
    exact q.rehide e fun a ws _ q => q
end
/-- from one heap to a later one: what is told stands, nobody's lists are as they were -/
structure Gr (F : Fm) (S : List (Option Addr)) (n : Nat) (H H' : Hp) : Prop where
  same : Same (hid F S H) (hid F S H')
  an : ∀ (i : Nat) (a : Addr), n ≤ i → S[i]? = some (some a) → H' a = H a
theorem Gr.refl (F : Fm) (S : List (Option Addr)) (n : Nat) (H : Hp) : Gr F S n H H := ⟨Same.refl _, fun _ _ _ _ => rfl⟩
theorem Gr.trans {F : Fm} {S : List (Option Addr)} {n : Nat} {H H1 H2 : Hp} (a : Gr F S n H H1) (b : Gr F S n H1 H2) : Gr F S n H H2 := ⟨a.same.trans b.same, fun i c h1 h2 => (b.an i c h1 h2).trans (a.an i c h1 h2)⟩
theorem Gr.ext {F : Fm} {S : List (Option Addr)} {σ : St} {H H' : Hp} {ρ : List SD} (E : En F S σ H ρ) (e : Same H H') : Gr F S σ.length H H' := ⟨hide_same e, fun i a h1 h2 => by
  obtain ⟨_, vs, q⟩ := E.an i a (List.getElem?_eq_none_iff.mpr (by rw [E.len]; exact h1)) h2
  rw [q, e _ _ q]⟩
/-- what came of an expression: data, or a new list (free of all else) -/
def RpS (F : Fm) (S : List (Option Addr)) (σ : St) (ρ' : List SD) (H H' : Hp) (r : SD) (v : V) : Prop := match r with
  | .dt d => Rp F.K (hid F S H') d v
  | .ow xs => ∃ p vs, v = .ref p ∧ H p = none ∧ H' p = some (.lst vs) ∧ RpL F.K (hid F (S ++ [some p]) H') xs vs ∧ En F (S ++ [some p]) σ H' ρ'
  | _ => False
section
variable {F : Fm} {S : List (Option Addr)} {σ : St} {H H' : Hp} {ρ ρ' : List SD}
theorem RpS.bl {b : Bool} {v : V} (h : RpS F S σ ρ' H H' (.dt (.bool b)) v) : v = .bl b := rp_bl.mp (show Rp F.K (hid F S H') (.bool b) v from h)
theorem RpS.of {d : PyData} {v : V} (h : Rp F.K (hid F S H') d v) : RpS F S σ ρ' H H' (.dt d) v := h
theorem RpS.ofbl {b : Bool} : RpS F S σ ρ' H H' (.dt (.bool b)) (.bl b) := show Rp F.K (hid F S H') (.bool b) (.bl b) from rp_bl.mpr rfl
theorem RpS.rp {r : SD} {v : V} (E : En F S σ H ρ) (h : RpS F S σ ρ' H H' r v) : Rp F.K (hid F S H') r.dat v := by
  cases r with
  | un => exact h.elim
  | pw _ => exact h.elim
  | dt d => exact h
  | ow xs =>
    obtain ⟨p, vs, rfl, h1, h2, h3, _⟩ := h
    exact rp_lst.mpr ⟨p, vs, rfl, .inl (.inl (hide_some.mpr ⟨E.new h1, h2⟩)), h3.mono (hide_anti fun b z => hp_snoc.mpr (.inl z))⟩
theorem RpS.back {H1 H2 : Hp} {ρ1 : List SD} {s : SD} {v : V} (E : En F S σ H ρ) (E1 : En F S σ H1 ρ1) (e : Same (hid F S H) (hid F S H1)) (h : RpS F S σ ρ' H1 H2 s v) : RpS F S σ ρ' H H2 s v := by
  cases s with
  | un => exact h
  | pw _ => exact h
  | dt d => exact h
  | ow xs =>
    obtain ⟨p, vs, h1, h2, h3, h4⟩ := h
    exact ⟨p, vs, h1, E.grow E1 e h2, h3, h4⟩
end

/-! ### what an expression does -/
abbrev QE := List SD → (SD → List SD → Prop) → Prop
abbrev QT := List SD → (Bool → List SD → Prop) → Prop
abbrev QA := List SD → (List PyData → List SD → Prop) → Prop
def Ev (F : Fm) (t : TE) (ρ : List SD) (Q : SD → List SD → Prop) : Prop :=
  ∀ S σ H, En F S σ H ρ → ∀ Q' : VK, (∀ r v H' ρ', En F S σ H' ρ' → Gr F S σ.length H H' → RpS F S σ ρ' H H' r v → Q r ρ' → Q' v H') → t σ H Q'
def EvT (F : Fm) (t : TT) (ρ : List SD) (Q : Bool → List SD → Prop) : Prop :=
  ∀ S σ H, En F S σ H ρ → ∀ Q' : Bool → Hp → Prop, (∀ b H' ρ', En F S σ H' ρ' → Gr F S σ.length H H' → Q b ρ' → Q' b H') → t σ H Q'
def EvA (F : Fm) (t : TA) (ρ : List SD) (Q : List PyData → List SD → Prop) : Prop :=
  ∀ S σ H, En F S σ H ρ → ∀ Q' : List V → Hp → Prop, (∀ ds vs H' ρ', En F S σ H' ρ' → Gr F S σ.length H H' → RpL F.K (hid F S H') ds vs → Q ds ρ' → Q' vs H') → t σ H Q'
structure DQ (X : Cx) (e : Expr) (t : TE) (q : QE) : Prop where
  pe : PE X e t
  sim : ∀ F : Fm, F.K = X.K → ∀ ρ Q, q ρ Q → Ev F t ρ Q
structure DT (X : Cx) (e : Expr) (t : TT) (q : QT) : Prop where
  pt : PT X e t
  sim : ∀ F : Fm, F.K = X.K → ∀ ρ Q, q ρ Q → EvT F t ρ Q
structure DW (X : Cx) (e : Expr) (t : TT) (q : QT) : Prop where
  pw : PW X e t
  sim : ∀ F : Fm, F.K = X.K → ∀ ρ Q, q ρ Q → EvT F t ρ Q
theorem DW.dt {X : Cx} {e : Expr} {t : TT} {q : QT} (h : DW X e t q) : DT X e t q := ⟨h.pw.pt, h.sim⟩
structure DA (X : Cx) (es : List Expr) (t : TA) (q : QA) : Prop where
  pa : PA X es t
  sim : ∀ F : Fm, F.K = X.K → ∀ ρ Q, q ρ Q → EvA F t ρ Q

section
variable {X : Cx} {a b c e : Expr} {es : List Expr} {ta tb tc : TE} {t : TA} {qa qb qc : QE} {q : QA} {pos : Pos}
/-! ### names, constants -/
def qVar (i : Nat) : QE := fun ρ Q => ∃ d, ρ[i]? = some (.dt d) ∧ Q (.dt d) ρ
def qC (d : PyData) : QE := fun ρ Q => Q (.dt d) ρ
theorem dq_var (i : Nat) {x : Str} (h : PE X (.Name x pos) (tVar i)) : DQ X (.Name x pos) (tVar i) (qVar i) := by
  refine ⟨h, fun F hF ρ Q ⟨d, hi, hq⟩ S σ H E Q' k => ?_⟩
  obtain ⟨_, v, hv, r⟩ := E.at_ i _ hi
  exact ⟨v, hv, k (.dt d) v H ρ E (Gr.refl _ _ _ _) r hq⟩
theorem sim_c {F : Fm} {d : PyData} {v : V} (h : ∀ H, Rp F.K H d v) (ρ : List SD) (Q : SD → List SD → Prop) (hq : qC d ρ Q) : Ev F (tC v) ρ Q := fun S σ H E Q' k => k (.dt d) v H ρ E (Gr.refl _ _ _ _) (h _) hq
theorem dq_int {i j} : DQ X (.Constant (.int i) j pos) (tC (.int i)) (qC (.int i)) := ⟨pe_int, fun F _ ρ Q h => sim_c (fun _ => rp_int.mpr rfl) ρ Q h⟩
theorem dq_bl {i j} : DQ X (.Constant (.bool i) j pos) (tC (.bl i)) (qC (.bool i)) := ⟨pe_bl, fun F _ ρ Q h => sim_c (fun _ => rp_bl.mpr rfl) ρ Q h⟩
theorem dq_non {j} : DQ X (.Constant .none j pos) (tC .non) (qC .none) := ⟨pe_non, fun F _ ρ Q h => sim_c (fun _ => rp_non.mpr rfl) ρ Q h⟩
theorem dq_str {i j} : DQ X (.Constant (.str i) j pos) (tC (.str i)) (qC (.str i)) := ⟨pe_str, fun F _ ρ Q h => sim_c (fun _ => rp_str.mpr rfl) ρ Q h⟩
/-- a module's constant -/
theorem dq_glob {x : Str} {d : PyData} {v : V} {u : Value} (hg : Gl X x) (hm : X.mg x = some u) (r : RelV v u) (h : ∀ H, Rp X.K H d v) (hd : (x == ("__debug__" : Str)) = false := by decide) : DQ X (.Name x pos) (tC v) (qC d) :=
  ⟨pe_glob hg hm r hd, fun F hF ρ Q hq => sim_c (fun H => hF ▸ h H) ρ Q hq⟩

/-! ### operators: what they do to data -/
/-- an operator by values keeps what stands and gives what q tells -/
def Op2 (K : PySem.W.Frag) (r : R2) (q : PyData → PyData → (SD → Prop) → Prop) : Prop :=
  ∀ (F : Fm) (S : List (Option Addr)) (σ : St) (ρ : List SD) (H : Hp) (x y : V) (d e : PyData) (Q : SD → Prop), F.K = K → En F S σ H ρ → Rp K (hid F S H) d x → Rp K (hid F S H) e y → q d e Q →
    ∀ Q' : VK, (∀ s v H', Same H H' → RpS F S σ ρ H H' s v → Q s → Q' v H') → r x y H Q'
def Op1 (K : PySem.W.Frag) (r : V → Hp → VK → Prop) (q : PyData → (SD → Prop) → Prop) : Prop :=
  ∀ (F : Fm) (S : List (Option Addr)) (σ : St) (ρ : List SD) (H : Hp) (x : V) (d : PyData) (Q : SD → Prop), F.K = K → En F S σ H ρ → Rp K (hid F S H) d x → q d Q →
    ∀ Q' : VK, (∀ s v H', Same H H' → RpS F S σ ρ H H' s v → Q s → Q' v H') → r x H Q'
def OpA (K : PySem.W.Frag) (r : List V → Hp → VK → Prop) (q : List PyData → (SD → Prop) → Prop) : Prop :=
  ∀ (F : Fm) (S : List (Option Addr)) (σ : St) (ρ : List SD) (H : Hp) (xs : List V) (ds : List PyData) (Q : SD → Prop), F.K = K → En F S σ H ρ → RpL K (hid F S H) ds xs → q ds Q →
    ∀ Q' : VK, (∀ s v H', Same H H' → RpS F S σ ρ H H' s v → Q s → Q' v H') → r xs H Q'
/-- an answer at the heap as it stands -/
theorem ans {F : Fm} {S : List (Option Addr)} {σ : St} {ρ : List SD} {H : Hp} {Q : SD → Prop} {Q' : VK} (k : ∀ s v H', Same H H' → RpS F S σ ρ H H' s v → Q s → Q' v H') {d : PyData} {v : V} (h : Rp F.K (hid F S H) d v) (q : Q (.dt d)) : Q' v H := k (.dt d) v H (Same.refl _) h q
/-- an answer that is a new list -/
theorem ansL {F : Fm} {S : List (Option Addr)} {σ : St} {ρ : List SD} {H : Hp} {Q : SD → Prop} {Q' : VK} (E : En F S σ H ρ) (k : ∀ s v H', Same H H' → RpS F S σ ρ H H' s v → Q s → Q' v H') {ds : List PyData} {vs : List V} {p : Addr} (hp' : H p = none) (h : RpL F.K (hid F S H) ds vs) (q : Q (.ow ds)) : Q' (.ref p) (upd H p (.lst vs)) :=
  k (.ow ds) (.ref p) _ (same_new hp') ⟨p, vs, rfl, hp', upd_same, h.mono (fun b x e => by
    obtain ⟨h1, h2⟩ := hide_some.mp e
    refine hide_some.mpr ⟨fun z => ?_, same_new hp' _ _ h2⟩
    rcases hp_snoc.mp z with z | z
    · exact h1 z
    · rw [z, hp'] at h2; cases h2), E.anon hp'⟩ q
/-- an answer that is a new tuple -/
theorem ansT {F : Fm} {S : List (Option Addr)} {σ : St} {ρ : List SD} {H : Hp} {Q : SD → Prop} {Q' : VK} (E : En F S σ H ρ) (k : ∀ s v H', Same H H' → RpS F S σ ρ H H' s v → Q s → Q' v H') {ds : List PyData} {vs : List V} {p : Addr} (hp' : H p = none) (h : RpL F.K (hid F S H) ds vs) (q : Q (.dt (.tuple ds))) : Q' (.ref p) (upd H p (.tup vs)) :=
  k (.dt (.tuple ds)) (.ref p) _ (same_new hp') (rp_tup.mpr ⟨p, vs, rfl, .inl (.inl (hide_some.mpr ⟨E.new hp', upd_same⟩)), h.mono (hide_same (same_new hp'))⟩) q
theorem Op2.or {r r' : R2} {q q' : PyData → PyData → (SD → Prop) → Prop} (h : Op2 X.K r q) (h' : Op2 X.K r' q') : Op2 X.K (fun x y H Q => r x y H Q ∨ r' x y H Q) (fun d e Q => q d e Q ∨ q' d e Q) := by
  intro F S σ ρ H x y d e Q hF E h1 h2 hq Q' k
  rcases (show q d e Q ∨ q' d e Q from hq) with hq | hq
  · exact .inl (h F S σ ρ H x y d e Q hF E h1 h2 hq Q' k)
  · exact .inr (h' F S σ ρ H x y d e Q hF E h1 h2 hq Q' k)
theorem OpA.or {r r' : List V → Hp → VK → Prop} {q q' : List PyData → (SD → Prop) → Prop} (h : OpA X.K r q) (h' : OpA X.K r' q') : OpA X.K (fun x H Q => r x H Q ∨ r' x H Q) (fun d Q => q d Q ∨ q' d Q) := by
  intro F S σ ρ H x d Q hF E h1 hq Q' k
  rcases (show q d Q ∨ q' d Q from hq) with hq | hq
  · exact .inl (h F S σ ρ H x d Q hF E h1 hq Q' k)
  · exact .inr (h' F S σ ρ H x d Q hF E h1 hq Q' k)
def q2 (q : PyData → PyData → (SD → Prop) → Prop) (qa qb : QE) : QE := fun ρ Q => qa ρ fun s ρ1 => qb ρ1 fun s' ρ2 => q s.dat s'.dat fun r => Q r ρ2
def q1 (q : PyData → (SD → Prop) → Prop) (qa : QE) : QE := fun ρ Q => qa ρ fun s ρ1 => q s.dat fun r => Q r ρ1
theorem sim_2 {r : R2} {q : PyData → PyData → (SD → Prop) → Prop} (ho : Op2 X.K r q) (ha : DQ X a ta qa) (hb : DQ X b tb qb) : ∀ F : Fm, F.K = X.K → ∀ ρ Q, q2 q qa qb ρ Q → Ev F (tOp r ta tb) ρ Q := by
  intro F hF ρ Q hq S σ H E Q' k
  refine ha.sim F hF ρ _ hq S σ H E _ fun s v H1 ρ1 E1 e1 r1 hq1 => ?_
  refine hb.sim F hF ρ1 _ hq1 S σ H1 E1 _ fun s' v' H2 ρ2 E2 e2 r2 hq2 => ?_
  refine ho F S σ ρ2 H2 v v' _ _ _ hF E2 (hF ▸ (r1.rp E).mono e2.same) (hF ▸ r2.rp E1) hq2 _ fun s3 v3 H3 e3 r3 hq3 => ?_
  exact k s3 v3 H3 ρ2 (E2.ext e3) (e1.trans (e2.trans (Gr.ext E2 e3))) (r3.back E E2 (e1.trans e2).same) hq3
theorem sim_1 {r : V → Hp → VK → Prop} {q : PyData → (SD → Prop) → Prop} (ho : Op1 X.K r q) (ha : DQ X a ta qa) : ∀ F : Fm, F.K = X.K → ∀ ρ Q, q1 q qa ρ Q → Ev F (tUn r ta) ρ Q := by
  intro F hF ρ Q hq S σ H E Q' k
  refine ha.sim F hF ρ _ hq S σ H E _ fun s v H1 ρ1 E1 e1 r1 hq1 => ?_
  refine ho F S σ ρ1 H1 v _ _ hF E1 (hF ▸ r1.rp E) hq1 _ fun s3 v3 H3 e3 r3 hq3 => ?_
  exact k s3 v3 H3 ρ1 (E1.ext e3) (e1.trans (Gr.ext E1 e3)) (r3.back E E1 e1.same) hq3
theorem dq_op {op : Operator} {r : R2} {q : PyData → PyData → (SD → Prop) → Prop} (hr : OpR X (binaryOp op) r) (ho : Op2 X.K r q) (ha : DQ X a ta qa) (hb : DQ X b tb qb) : DQ X (.BinOp a op b pos) (tOp r ta tb) (q2 q qa qb) := ⟨pe_op hr ha.pe hb.pe, sim_2 ho ha hb⟩
theorem dq_un {op : UnaryOp} {r : V → Hp → VK → Prop} {q : PyData → (SD → Prop) → Prop} (hr : UnR X (unaryOp op) r) (ho : Op1 X.K r q) (ha : DQ X a ta qa) : DQ X (.UnaryOp op a pos) (tUn r ta) (q1 q qa) := ⟨pe_un hr ha.pe, sim_1 ho ha⟩
theorem dq_cmp {op : CmpOp} {r : R2} {q : PyData → PyData → (SD → Prop) → Prop} (hr : OpR X (compareOp op) r) (ho : Op2 X.K r q) (ha : DQ X a ta qa) (hb : DQ X b tb qb) (hm : behindInMarks op b = false) : DQ X (.Compare a [op] [b] pos) (tOp r ta tb) (q2 q qa qb) := ⟨pe_cmpR hr ha.pe hb.pe hm, sim_2 ho ha hb⟩
/-- a True or False as a test -/
def qTest (q : QE) : QT := fun ρ Q => q ρ fun s ρ1 => ∃ k, s.dat = .bool k ∧ Q k ρ1
theorem sim_test {t : TE} {q : QE} (hs : ∀ F : Fm, F.K = X.K → ∀ ρ Q, q ρ Q → Ev F t ρ Q) : ∀ F : Fm, F.K = X.K → ∀ ρ Q, qTest q ρ Q → EvT F (tTest t) ρ Q := by
  intro F hF ρ Q hq S σ H E Q' k
  refine hs F hF ρ _ hq S σ H E _ fun s v H1 ρ1 E1 e1 r1 ⟨b, hb, hq1⟩ => ?_
  have := r1.rp E
  rw [hb] at this
  exact ⟨b, rp_bl.mp this, k b H1 ρ1 E1 e1 hq1⟩
theorem dt_cmp {op : CmpOp} {r : R2} {q : PyData → PyData → (SD → Prop) → Prop} (hr : OpR X (compareOp op) r) (ho : Op2 X.K r q) (ha : DQ X a ta qa) (hb : DQ X b tb qb) (hm : behindInMarks op b = false) : DT X (.Compare a [op] [b] pos) (tTest (tOp r ta tb)) (qTest (q2 q qa qb)) := ⟨pt_cmpR hr ha.pe hb.pe hm, sim_test (sim_2 ho ha hb)⟩
theorem dt_val {q : QE} (h : DQ X e ta q) (he : ∀ whole, isTrue e X.env whole = (do let v ← whole; standAt e.pos; holding [v] (truthy v)) := by intro _; rfl) : DT X e (tTest ta) (qTest q) := ⟨pt_val h.pe he, sim_test h.sim⟩
/-- a op1 b op2 c -/
def qChain (q q' : PyData → PyData → (SD → Prop) → Prop) (qa qb qc : QE) : QE := fun ρ Q => qa ρ fun s ρ1 => qb ρ1 fun s' ρ2 => q s.dat s'.dat fun r => ∃ k, r = .dt (.bool k) ∧ if k = true then qc ρ2 fun s2 ρ3 => q' s'.dat s2.dat fun r' => Q r' ρ3 else Q (.dt (.bool false)) ρ2
theorem sim_chain {r r' : R2} {q q' : PyData → PyData → (SD → Prop) → Prop} (ho : Op2 X.K r q) (ho' : Op2 X.K r' q') (ha : DQ X a ta qa) (hb : DQ X b tb qb) (hc : DQ X c tc qc) : ∀ F : Fm, F.K = X.K → ∀ ρ Q, qChain q q' qa qb qc ρ Q → Ev F (tChain r r' ta tb tc) ρ Q := by
  intro F hF ρ Q hq S σ H E Q' k
  refine ha.sim F hF ρ _ hq S σ H E _ fun s v H1 ρ1 E1 e1 r1 hq1 => ?_
  refine hb.sim F hF ρ1 _ hq1 S σ H1 E1 _ fun s' v' H2 ρ2 E2 e2 r2 hq2 => ?_
  refine ho F S σ ρ2 H2 v v' _ _ _ hF E2 (hF ▸ (r1.rp E).mono e2.same) (hF ▸ r2.rp E1) hq2 _ fun s3 v3 H3 e3 r3 ⟨kb, hk, hq3⟩ => ?_
  subst hk
  have E3 := E2.ext e3
  refine ⟨kb, r3.bl, ?_⟩
  cases kb with
  | false => exact iteF (k (.dt (.bool false)) _ H3 ρ2 E3 (e1.trans (e2.trans (Gr.ext E2 e3))) RpS.ofbl (by simpa using hq3))
  | true =>
    refine iteT ?_
    refine hc.sim F hF ρ2 _ (by simpa using hq3) S σ H3 E3 _ fun s4 v4 H4 ρ4 E4 e4 r4 hq4 => ?_
    refine ho' F S σ ρ4 H4 v' v4 _ _ _ hF E4 (hF ▸ (r2.rp E1).mono ((hide_same e3).trans e4.same)) (hF ▸ r4.rp E3) hq4 _ fun s5 v5 H5 e5 r5 hq5 => ?_
    exact k s5 v5 H5 ρ4 (E4.ext e5) (e1.trans (e2.trans ((Gr.ext E2 e3).trans (e4.trans (Gr.ext E4 e5))))) (r5.back E E4 (e1.trans (e2.trans ((Gr.ext E2 e3).trans e4))).same) hq5
theorem dq_chain {op op' : CmpOp} {r r' : R2} {q q' : PyData → PyData → (SD → Prop) → Prop} (hr : OpR X (compareOp op) r) (ho : Op2 X.K r q) (hr' : OpR X (compareOp op') r') (ho' : Op2 X.K r' q') (ha : DQ X a ta qa) (hb : DQ X b tb qb) (hc : DQ X c tc qc)
    (hm : lastMarks [op, op'] [b, c] = false := by with_unfolding_all rfl) : DQ X (.Compare a [op, op'] [b, c] pos) (tChain r r' ta tb tc) (qChain q q' qa qb qc) := ⟨pe_chain hr hr' ha.pe hb.pe hc.pe hm, sim_chain ho ho' ha hb hc⟩
theorem dt_chain {op op' : CmpOp} {r r' : R2} {q q' : PyData → PyData → (SD → Prop) → Prop} (hr : OpR X (compareOp op) r) (ho : Op2 X.K r q) (hr' : OpR X (compareOp op') r') (ho' : Op2 X.K r' q') (ha : DQ X a ta qa) (hb : DQ X b tb qb) (hc : DQ X c tc qc)
    (hm : lastMarks [op, op'] [b, c] = false := by with_unfolding_all rfl) : DT X (.Compare a [op, op'] [b, c] pos) (tTest (tChain r r' ta tb tc)) (qTest (qChain q q' qa qb qc)) := ⟨pt_chain hr hr' ha.pe hb.pe hc.pe hm, sim_test (sim_chain ho ho' ha hb hc)⟩

/-! ### and, or, not, if -/
section
variable {rest : List Expr} {tA tB' : TT} {qA qB : QT}
def qAnd (qA qB : QT) : QT := fun ρ Q => qA ρ fun c ρ1 => if c = true then qB ρ1 Q else Q false ρ1
def qOr (qA qB : QT) : QT := fun ρ Q => qA ρ fun c ρ1 => if c = true then Q true ρ1 else qB ρ1 Q
def qNot (qA : QT) : QT := fun ρ Q => qA ρ fun c ρ1 => Q (!c) ρ1
theorem dw_and1 (ha : DT X a tA qA) : DW X (.BoolOp .And [a] pos) tA qA := ⟨pw_and1 ha.pt, ha.sim⟩
theorem dw_or1 (ha : DT X a tA qA) : DW X (.BoolOp .Or [a] pos) tA qA := ⟨pw_or1 ha.pt, ha.sim⟩
theorem dw_and (ha : DT X a tA qA) (hb : DW X (.BoolOp .And (b :: rest) pos) tB' qB) : DW X (.BoolOp .And (a :: b :: rest) pos) (tAnd tA tB') (qAnd qA qB) := by
  refine ⟨pw_and ha.pt hb.pw, fun F hF ρ Q hq S σ H E Q' k => ?_⟩
  refine ha.sim F hF ρ _ hq S σ H E _ fun c H1 ρ1 E1 e1 hq1 => ?_
  cases c with
  | false => exact iteF (k false H1 ρ1 E1 e1 (by simpa using hq1))
  | true => exact iteT (hb.sim F hF ρ1 _ (by simpa using hq1) S σ H1 E1 _ fun c H2 ρ2 E2 e2 hq2 => k c H2 ρ2 E2 (e1.trans e2) hq2)
theorem dw_or (ha : DT X a tA qA) (hb : DW X (.BoolOp .Or (b :: rest) pos) tB' qB) : DW X (.BoolOp .Or (a :: b :: rest) pos) (tOr tA tB') (qOr qA qB) := by
  refine ⟨pw_or ha.pt hb.pw, fun F hF ρ Q hq S σ H E Q' k => ?_⟩
  refine ha.sim F hF ρ _ hq S σ H E _ fun c H1 ρ1 E1 e1 hq1 => ?_
  cases c with
  | true => exact iteT (k true H1 ρ1 E1 e1 (by simpa using hq1))
  | false => exact iteF (hb.sim F hF ρ1 _ (by simpa using hq1) S σ H1 E1 _ fun c H2 ρ2 E2 e2 hq2 => k c H2 ρ2 E2 (e1.trans e2) hq2)
theorem dt_not (ha : DT X a tA qA) : DT X (.UnaryOp .Not a pos) (tNot tA) (qNot qA) := by
  refine ⟨pt_not ha.pt, fun F hF ρ Q hq S σ H E Q' k => ?_⟩
  exact ha.sim F hF ρ _ hq S σ H E _ fun c H1 ρ1 E1 e1 hq1 => k (!c) H1 ρ1 E1 e1 hq1
/-- as values: all but the last True or False -/
def qAndV (qa qb : QE) : QE := fun ρ Q => qa ρ fun s ρ1 => ∃ c, s.dat = .bool c ∧ if c = true then qb ρ1 Q else Q (.dt (.bool false)) ρ1
def qOrV (qa qb : QE) : QE := fun ρ Q => qa ρ fun s ρ1 => ∃ c, s.dat = .bool c ∧ if c = true then Q (.dt (.bool true)) ρ1 else qb ρ1 Q
def qNotV (qa : QE) : QE := fun ρ Q => qa ρ fun s ρ1 => ∃ c, s.dat = .bool c ∧ Q (.dt (.bool (!c))) ρ1
theorem dq_one {op} (h : DQ X a ta qa) : DQ X (.BoolOp op [a] pos) ta qa := ⟨pe_one h.pe, h.sim⟩
theorem dq_and (ha : DQ X a ta qa) (hb : DQ X (.BoolOp .And (b :: rest) pos) tb qb) : DQ X (.BoolOp .And (a :: b :: rest) pos) (tAndV ta tb) (qAndV qa qb) := by
  refine ⟨pe_and ha.pe hb.pe, fun F hF ρ Q hq S σ H E Q' k => ?_⟩
  refine ha.sim F hF ρ _ hq S σ H E _ fun s v H1 ρ1 E1 e1 r1 ⟨c, hc, hq1⟩ => ?_
  have := r1.rp E
  rw [hc] at this
  refine ⟨c, rp_bl.mp this, ?_⟩
  cases c with
  | false => exact iteF (k (.dt (.bool false)) _ H1 ρ1 E1 e1 RpS.ofbl (by simpa using hq1))
  | true => exact iteT (hb.sim F hF ρ1 _ (by simpa using hq1) S σ H1 E1 _ fun s2 v2 H2 ρ2 E2 e2 r2 hq2 => k s2 v2 H2 ρ2 E2 (e1.trans e2) (r2.back E E1 e1.same) hq2)
theorem dq_or (ha : DQ X a ta qa) (hb : DQ X (.BoolOp .Or (b :: rest) pos) tb qb) : DQ X (.BoolOp .Or (a :: b :: rest) pos) (tOrV ta tb) (qOrV qa qb) := by
  refine ⟨pe_or ha.pe hb.pe, fun F hF ρ Q hq S σ H E Q' k => ?_⟩
  refine ha.sim F hF ρ _ hq S σ H E _ fun s v H1 ρ1 E1 e1 r1 ⟨c, hc, hq1⟩ => ?_
  have := r1.rp E
  rw [hc] at this
  refine ⟨c, rp_bl.mp this, ?_⟩
  cases c with
  | true => exact iteT (k (.dt (.bool true)) _ H1 ρ1 E1 e1 RpS.ofbl (by simpa using hq1))
  | false => exact iteF (hb.sim F hF ρ1 _ (by simpa using hq1) S σ H1 E1 _ fun s2 v2 H2 ρ2 E2 e2 r2 hq2 => k s2 v2 H2 ρ2 E2 (e1.trans e2) (r2.back E E1 e1.same) hq2)
theorem dq_not (ha : DQ X a ta qa) : DQ X (.UnaryOp .Not a pos) (tNotV ta) (qNotV qa) := by
  refine ⟨pe_not ha.pe, fun F hF ρ Q hq S σ H E Q' k => ?_⟩
  refine ha.sim F hF ρ _ hq S σ H E _ fun s v H1 ρ1 E1 e1 r1 ⟨c, hc, hq1⟩ => ?_
  have := r1.rp E
  rw [hc] at this
  exact ⟨c, rp_bl.mp this, k (.dt (.bool (!c))) _ H1 ρ1 E1 e1 RpS.ofbl hq1⟩
def qIf (qA : QT) (qa qb : QE) : QE := fun ρ Q => qA ρ fun c ρ1 => if c = true then qa ρ1 Q else qb ρ1 Q
theorem dq_if (hc : DT X c tA qA) (ha : DQ X a ta qa) (hb : DQ X b tb qb) : DQ X (.IfExp c a b pos) (tIf tA ta tb) (qIf qA qa qb) := by
  refine ⟨pe_ifExp hc.pt ha.pe hb.pe, fun F hF ρ Q hq S σ H E Q' k => ?_⟩
  refine hc.sim F hF ρ _ hq S σ H E _ fun c H1 ρ1 E1 e1 hq1 => ?_
  cases c with
  | true => exact iteT (ha.sim F hF ρ1 _ (by simpa using hq1) S σ H1 E1 _ fun s2 v2 H2 ρ2 E2 e2 r2 hq2 => k s2 v2 H2 ρ2 E2 (e1.trans e2) (r2.back E E1 e1.same) hq2)
  | false => exact iteF (hb.sim F hF ρ1 _ (by simpa using hq1) S σ H1 E1 _ fun s2 v2 H2 ρ2 E2 e2 r2 hq2 => k s2 v2 H2 ρ2 E2 (e1.trans e2) (r2.back E E1 e1.same) hq2)
end

/-! ### arguments, displays -/
def qNil : QA := fun ρ Q => Q [] ρ
def qCons (qa : QE) (q : QA) : QA := fun ρ Q => qa ρ fun s ρ1 => q ρ1 fun ds ρ2 => Q (s.dat :: ds) ρ2
theorem da_nil : DA X [] tNil qNil := ⟨pa_nil, fun F hF ρ Q hq S σ H E Q' k => k [] [] H ρ E (Gr.refl _ _ _ _) RpL.nil hq⟩
theorem da_cons (ha : DQ X a ta qa) (hr : DA X es t q) (hs : starEach (a :: es) X.env = (false, eval a X.env) :: starEach es X.env := by rfl) : DA X (a :: es) (tCons ta t) (qCons qa q) := by
  refine ⟨pa_cons ha.pe hr.pa hs, fun F hF ρ Q hq S σ H E Q' k => ?_⟩
  refine ha.sim F hF ρ _ hq S σ H E _ fun s v H1 ρ1 E1 e1 r1 hq1 => ?_
  exact hr.sim F hF ρ1 _ hq1 S σ H1 E1 _ fun ds vs H2 ρ2 E2 e2 r2 hq2 => k (s.dat :: ds) (v :: vs) H2 ρ2 E2 (e1.trans e2) (RpL.cons ((r1.rp E).mono e2.same) r2) hq2
def qTup (q : QA) : QE := fun ρ Q => q ρ fun ds ρ1 => ds.length ≤ sizeLine ∧ Q (.dt (.tuple ds)) ρ1
def qLst (q : QA) : QE := fun ρ Q => q ρ fun ds ρ1 => ds.length ≤ sizeLine ∧ Q (.ow ds) ρ1
theorem dq_tup {x1} (h : DA X es t q) : DQ X (.Tuple es x1 pos) (tTup t) (qTup q) := by
  refine ⟨pe_tup h.pa, fun F hF ρ Q hq S σ H E Q' k => ?_⟩
  refine h.sim F hF ρ _ hq S σ H E _ fun ds vs H1 ρ1 E1 e1 r1 ⟨hz, hq1⟩ => ⟨by rw [r1.len]; exact hz, fun p np => ?_⟩
  exact ansT (Q := fun s => Q s ρ1) E1 (fun s v H' e' r' hq' => k s v H' ρ1 (E1.ext e') (e1.trans (Gr.ext E1 e')) (r'.back E E1 e1.same) hq') np r1 hq1
theorem dq_lst (h : DA X es t q) : DQ X (.List es pos) (tLst t) (qLst q) := by
  refine ⟨pe_lst h.pa, fun F hF ρ Q hq S σ H E Q' k => ?_⟩
  refine h.sim F hF ρ _ hq S σ H E _ fun ds vs H1 ρ1 E1 e1 r1 ⟨hz, hq1⟩ => ⟨by rw [r1.len]; exact hz, fun p np => ?_⟩
  exact ansL (Q := fun s => Q s ρ1) E1 (fun s v H' e' r' hq' => k s v H' ρ1 (E1.ext e') (e1.trans (Gr.ext E1 e')) (r'.back E E1 e1.same) hq') np r1 hq1
/-! ### built-ins by name, by class; methods of built-in types -/
def qCB (qr : List PyData → (SD → Prop) → Prop) (q : QA) : QE := fun ρ Q => q ρ fun ds ρ1 => qr ds fun s => Q s ρ1
def qBM (qr : PyData → List PyData → (SD → Prop) → Prop) (qo : QE) (q : QA) : QE := fun ρ Q => qo ρ fun s ρ1 => q ρ1 fun ds ρ2 => qr s.dat ds fun r => Q r ρ2
end
end DL
set_option Elab.async false
set_option linter.all false
set_option maxRecDepth 100000
set_option autoImplicit false
/-! DL2: operators, built-ins, subscripts at the data level. -/
namespace DL
open PySem PySem.Spec PyProof.Rows L2

/-! ### whole numbers -/
def kI (C : Int → Int → Prop) (g : Int → Int → Int) : PyData → PyData → (SD → Prop) → Prop := fun d e Q => ∃ i j, d = .int i ∧ e = .int j ∧ C i j ∧ Q (.dt (.int (g i j)))
def kI0 (g : Int → Int → Int) : PyData → PyData → (SD → Prop) → Prop := fun d e Q => ∃ i j, d = .int i ∧ e = .int j ∧ Q (.dt (.int (g i j)))
def kB0 (g : Int → Int → Bool) : PyData → PyData → (SD → Prop) → Prop := fun d e Q => ∃ i j, d = .int i ∧ e = .int j ∧ Q (.dt (.bool (g i j)))
section
variable {K : PySem.W.Frag}
theorem o2_I {C : Int → Int → Prop} {g : Int → Int → Int} : Op2 K (rI C fun i j => .int (g i j)) (kI C g) := by
  rintro F S σ ρ H x y d e Q hF E h1 h2 ⟨i, j, rfl, rfl, hc, hq⟩ Q' k
  exact ⟨i, j, rp_int.mp h1, rp_int.mp h2, hc, ans (F := F) (S := S) (σ := σ) (ρ := ρ) k (rp_int.mpr rfl) hq⟩
theorem o2_I0 {g : Int → Int → Int} : Op2 K (rI0 fun i j => .int (g i j)) (kI0 g) := by
  rintro F S σ ρ H x y d e Q hF E h1 h2 ⟨i, j, rfl, rfl, hq⟩ Q' k
  exact ⟨i, j, rp_int.mp h1, rp_int.mp h2, ans (F := F) (S := S) (σ := σ) (ρ := ρ) k (rp_int.mpr rfl) hq⟩
theorem o2_B0 {g : Int → Int → Bool} : Op2 K (rI0 fun i j => .bl (g i j)) (kB0 g) := by
  rintro F S σ ρ H x y d e Q hF E h1 h2 ⟨i, j, rfl, rfl, hq⟩ Q' k
  exact ⟨i, j, rp_int.mp h1, rp_int.mp h2, ans (F := F) (S := S) (σ := σ) (ρ := ρ) k (rp_bl.mpr rfl) hq⟩
theorem o1_U {g : Int → Int} : Op1 K (rU fun i => .int (g i)) (fun d Q => ∃ i, d = .int i ∧ Q (.dt (.int (g i)))) := by
  rintro F S σ ρ H x d Q hF E h1 ⟨i, rfl, hq⟩ Q' k
  exact ⟨i, rp_int.mp h1, ans (F := F) (S := S) (σ := σ) (ρ := ρ) k (rp_int.mpr rfl) hq⟩
/-! ### + -/
def kAddS : PyData → PyData → (SD → Prop) → Prop := fun d e Q => ∃ i j, d = .str i ∧ e = .str j ∧ i.length + j.length ≤ sizeLine ∧ Q (.dt (.str (i ++ j)))
theorem o2_addS : Op2 K (fun x y H Q => ∃ i j, x = .str i ∧ y = .str j ∧ i.length + j.length ≤ sizeLine ∧ Q (.str (i ++ j)) H) kAddS := by
  rintro F S σ ρ H x y d e Q hF E h1 h2 ⟨i, j, rfl, rfl, hz, hq⟩ Q' k
  exact ⟨i, j, rp_str.mp h1, rp_str.mp h2, hz, ans (F := F) (S := S) (σ := σ) (ρ := ρ) k (rp_str.mpr rfl) hq⟩
def kCat : PyData → PyData → (SD → Prop) → Prop := fun d e Q => ∃ xs ys, d = .list xs ∧ e = .list ys ∧ xs.length + ys.length ≤ sizeLine ∧ Q (.ow (xs ++ ys))
/-- two lists, whatever holds them -/
def rCatL (K : PySem.W.Frag) : R2 := fun x y H Q => ∃ l b xs zs, x = .ref l ∧ y = .ref b ∧ SqL K H l xs ∧ SqL K H b zs ∧ xs.length + zs.length ≤ sizeLine ∧ ∀ p, H p = none → Q (.ref p) (upd H p (.lst (xs ++ zs)))
theorem op_catL {X : Cx} : OpR X (binaryOp .Add) (rCatL X.K) := by
  intro pins s σ H x y v u Q I rx ry h
  obtain ⟨l, b, xs, zs, rfl, rfl, hl, hb, hz, q⟩ := h
  cases rx
  cases ry
  obtain ⟨i1, r1, ⟨⟨c1, d1, t1, s1⟩, n1, g1, e1, f1, j1⟩, _⟩ := I.list hl
  obtain ⟨i2, r2, ⟨⟨c2, d2, t2, s2⟩, n2, g2, e2, f2, j2⟩, _⟩ := I.list hb
  simp only at e1 f1 j1 e2 f2 j2
  subst e1 f1 j1 e2 f2 j2
  have l1 := r1.length
  have l2 := r2.length
  have ea : i1.toArray ++ i2.toArray = (i1 ++ i2).toArray := by simp
  refine concat_meets ⟨_, g1, rfl⟩ ⟨_, g2, rfl⟩ noFill_list_add seq_list_add PySem.F.slot_list_add PySem.F.entry_list_add (PySem.F.args_list_add_2 _ _) (list_addW l b i1.toArray i2.toArray n1 n2 none none s1 s2 (by rw [List.size_toArray, List.size_toArray]; omega)) ⟨g1, g2, ?_⟩
  rw [ea]
  exact ⟨.ref _, _, I.lnew (t' := s.toks) (r1.append r2) (by rw [List.length_append]; omega), rfl, q _ I.fresh⟩
theorem o2_cat {K : PySem.W.Frag} : Op2 K (rCatL K) kCat := by
  rintro F S σ ρ H x y d e Q rfl E h1 h2 ⟨ds, es, rfl, rfl, hz, hq⟩ Q' k
  obtain ⟨a, xs, rfl, ha, ra⟩ := rp_lst.mp h1
  obtain ⟨b, ys, rfl, hb, rb⟩ := rp_lst.mp h2
  refine ⟨a, b, xs, ys, rfl, rfl, sql_mono hide_le ha, sql_mono hide_le hb, by rw [ra.len, rb.len]; exact hz, fun p np => ?_⟩
  exact ansL E k np (ra.append rb) hq
end
section
variable {X : Cx}
/-- a + b: numbers, texts, lists -/
def kAdd : PyData → PyData → (SD → Prop) → Prop := fun d e Q => match d, e with
  | .int i, .int j => Q (.dt (.int (i + j)))
  | .str i, .str j => i.length + j.length ≤ sizeLine ∧ Q (.dt (.str (i ++ j)))
  | .list xs, .list ys => xs.length + ys.length ≤ sizeLine ∧ Q (.ow (xs ++ ys))
  | _, _ => False
def rAddA (K : PySem.W.Frag) : R2 := fun x y H Q => (rI0 (fun i j => .int (i + j))) x y H Q ∨ (∃ i j, x = .str i ∧ y = .str j ∧ i.length + j.length ≤ sizeLine ∧ Q (.str (i ++ j)) H) ∨ rCatL K x y H Q
theorem op_addA : OpR X (binaryOp .Add) (rAddA X.K) := op_add.or (op_add_str.or op_catL)
theorem o2_addA {K : PySem.W.Frag} : Op2 K (rAddA K) kAdd := by
  intro F S σ ρ H x y d e Q hF E h1 h2 hq Q' k
  cases d <;> cases e <;> first
    | exact hq.elim
    | exact .inl (o2_I0 (g := fun i j => i + j) F S σ ρ H x y _ _ Q hF E h1 h2 ⟨_, _, rfl, rfl, hq⟩ Q' k)
    | exact .inr (.inl (o2_addS F S σ ρ H x y _ _ Q hF E h1 h2 ⟨_, _, rfl, rfl, hq.1, hq.2⟩ Q' k))
    | exact .inr (.inr (o2_cat F S σ ρ H x y _ _ Q hF E h1 h2 ⟨_, _, rfl, rfl, hq.1, hq.2⟩ Q' k))
variable {a b : Expr} {ta tb : TE} {qa qb : QE} {pos : Pos}
theorem dq_add (ha : DQ X a ta qa) (hb : DQ X b tb qb) : DQ X (.BinOp a .Add b pos) (tOp (rAddA X.K) ta tb) (q2 kAdd qa qb) := dq_op op_addA o2_addA ha hb
theorem dq_sub (ha : DQ X a ta qa) (hb : DQ X b tb qb) : DQ X (.BinOp a .Sub b pos) (tOp (rI0 fun i j => .int (i - j)) ta tb) (q2 (kI0 fun i j => i - j) qa qb) := dq_op op_sub o2_I0 ha hb
/-- a * b: numbers (together below a million bits), a text and a number, a list and a number -/
theorem dq_mul (ha : DQ X a ta qa) (hb : DQ X b tb qb) : DQ X (.BinOp a .Mult b pos) (tOp (rI CMulW fun i j => .int (i * j)) ta tb) (q2 (kI CMulW fun i j => i * j) qa qb) := dq_op op_mulW o2_I ha hb
/-- a // b by a positive number -/
theorem dq_fdiv (ha : DQ X a ta qa) (hb : DQ X b tb qb) : DQ X (.BinOp a .FloorDiv b pos) (tOp (rI CDivW fun i j => .int (i / j)) ta tb) (q2 (kI CDivW fun i j => i / j) qa qb) := dq_op op_fdivW o2_I ha hb
theorem dq_mod (ha : DQ X a ta qa) (hb : DQ X b tb qb) : DQ X (.BinOp a .Mod b pos) (tOp (rI (fun _ j => 0 < j) fun i j => .int (i % j)) ta tb) (q2 (kI (fun _ j => 0 < j) fun i j => i % j) qa qb) := dq_op op_mod o2_I ha hb
/-- a ** b -/
def CPowW (i j : Int) : Prop := 0 ≤ j ∧ (Builtin.Int.intBits i : Int) * j ≤ 2 ^ 27
theorem op_powW : OpR X (binaryOp .Pow) (rI CPowW fun i j => .int (i ^ j.toNat)) := opI fun _ _ _ _ _ _ _ hc q => pow_int hc.1 hc.2 q
theorem dq_pow (ha : DQ X a ta qa) (hb : DQ X b tb qb) : DQ X (.BinOp a .Pow b pos) (tOp (rI CPowW fun i j => .int (i ^ j.toNat)) ta tb) (q2 (kI CPowW fun i j => i ^ j.toNat) qa qb) := dq_op op_powW o2_I ha hb
theorem dq_neg (ha : DQ X a ta qa) : DQ X (.UnaryOp .USub a pos) (tUn (rU fun i => .int (-i)) ta) (q1 (fun d Q => ∃ i, d = .int i ∧ Q (.dt (.int (-i)))) qa) := dq_un un_neg o1_U ha
/-! ### comparisons of numbers -/
abbrev rLt : R2 := rI0 fun i j => .bl (decide (i < j))
abbrev rLe : R2 := rI0 fun i j => .bl (decide (i ≤ j))
abbrev rGt : R2 := rI0 fun i j => .bl (decide (j < i))
abbrev rGe : R2 := rI0 fun i j => .bl (decide (j ≤ i))
theorem o2_lt {K} : Op2 K rLt (kB0 fun i j => decide (i < j)) := o2_B0
theorem o2_le {K} : Op2 K rLe (kB0 fun i j => decide (i ≤ j)) := o2_B0
theorem o2_gt {K} : Op2 K rGt (kB0 fun i j => decide (j < i)) := o2_B0
theorem o2_ge {K} : Op2 K rGe (kB0 fun i j => decide (j ≤ i)) := o2_B0
/-! ### == -/
def eqq (d e : PyData) (Q : Bool → Prop) : Prop := match d, e with
  | .int i, .int j => Q (decide (i = j))
  | .str i, .str j => Q (decide (i = j))
  | d, e => SeqAt.shaped d = true ∧ SeqAt.shaped e = true ∧ Q (PyData.eqv d e)
def rEqA (K : PySem.W.Frag) : R2 := fun x y H Q => rEq x y H Q ∨ rEqD K x y H Q
def rNeA (K : PySem.W.Frag) : R2 := fun x y H Q => rNe x y H Q ∨ rNeD K x y H Q
theorem op_eqA (hu : X.A.units + 64 < cLine) : OpR X (compareOp .Eq) (rEqA X.K) := op_eq.or (op_eqD hu)
theorem op_neA (hu : X.A.units + 64 < cLine) : OpR X (compareOp .NotEq) (rNeA X.K) := op_ne.or (op_neD hu)
def kEq : PyData → PyData → (SD → Prop) → Prop := fun d e Q => eqq d e fun b => Q (.dt (.bool b))
def kNe : PyData → PyData → (SD → Prop) → Prop := fun d e Q => eqq d e fun b => Q (.dt (.bool (!b)))
theorem eqq_cases {d e : PyData} {Q : Bool → Prop} (h : eqq d e Q) : (∃ i j, d = .int i ∧ e = .int j ∧ Q (decide (i = j))) ∨ (∃ i j, d = .str i ∧ e = .str j ∧ Q (decide (i = j))) ∨ (SeqAt.shaped d = true ∧ SeqAt.shaped e = true ∧ Q (PyData.eqv d e)) := by
  unfold eqq at h
  split at h
  · exact .inl ⟨_, _, rfl, rfl, h⟩
  · exact .inr (.inl ⟨_, _, rfl, rfl, h⟩)
  · exact .inr (.inr h)
theorem o2_eq {K : PySem.W.Frag} : Op2 K (rEqA K) kEq := by
  intro F S σ ρ H x y d e Q hF E h1 h2 hq Q' k
  rcases eqq_cases hq with ⟨i, j, rfl, rfl, hq⟩ | ⟨i, j, rfl, rfl, hq⟩ | ⟨s1, s2, hq⟩
  · rw [rp_int.mp h1, rp_int.mp h2]
    exact .inl ⟨rfl, ans (F := F) (S := S) (σ := σ) (ρ := ρ) k (rp_bl.mpr rfl) (by rw [show decide (V.int i = V.int j) = decide (i = j) by simp]; exact hq)⟩
  · rw [rp_str.mp h1, rp_str.mp h2]
    exact .inl ⟨rfl, ans (F := F) (S := S) (σ := σ) (ρ := ρ) k (rp_bl.mpr rfl) (by rw [show decide (V.str i = V.str j) = decide (i = j) by simp]; exact hq)⟩
  · exact .inr ⟨d, e, (h1.mono hide_le).dp, (h2.mono hide_le).dp, s1, s2, ans (F := F) (S := S) (σ := σ) (ρ := ρ) k (rp_bl.mpr rfl) hq⟩
theorem o2_ne {K : PySem.W.Frag} : Op2 K (rNeA K) kNe := by
  intro F S σ ρ H x y d e Q hF E h1 h2 hq Q' k
  rcases eqq_cases hq with ⟨i, j, rfl, rfl, hq⟩ | ⟨i, j, rfl, rfl, hq⟩ | ⟨s1, s2, hq⟩
  · rw [rp_int.mp h1, rp_int.mp h2]
    exact .inl ⟨rfl, ans (F := F) (S := S) (σ := σ) (ρ := ρ) k (rp_bl.mpr rfl) (by rw [show decide (V.int i = V.int j) = decide (i = j) by simp]; exact hq)⟩
  · rw [rp_str.mp h1, rp_str.mp h2]
    exact .inl ⟨rfl, ans (F := F) (S := S) (σ := σ) (ρ := ρ) k (rp_bl.mpr rfl) (by rw [show decide (V.str i = V.str j) = decide (i = j) by simp]; exact hq)⟩
  · exact .inr ⟨d, e, (h1.mono hide_le).dp, (h2.mono hide_le).dp, s1, s2, ans (F := F) (S := S) (σ := σ) (ρ := ρ) k (rp_bl.mpr rfl) hq⟩
/-! ### is None, in -/
def isN : PyData → Bool | .none => true | _ => false
def rIsN : R2 := fun x y H Q => y = .non ∧ Q (.bl (decide (x = .non))) H
def rNotN : R2 := fun x y H Q => y = .non ∧ Q (.bl (!decide (x = .non))) H
def kIsN : PyData → PyData → (SD → Prop) → Prop := fun d e Q => e = .none ∧ Q (.dt (.bool (isN d)))
def kNotN : PyData → PyData → (SD → Prop) → Prop := fun d e Q => e = .none ∧ Q (.dt (.bool (!isN d)))
theorem isN_of {K : PySem.W.Frag} {H : Hp} {d : PyData} {x : V} (h : Rp K H d x) : decide (x = .non) = isN d := by
  cases d with
  | none => rw [rp_non.mp h]; rfl
  | bool b => rw [rp_bl.mp h]; rfl
  | int i => rw [rp_int.mp h]; rfl
  | str z => rw [rp_str.mp h]; rfl
  | list ds => obtain ⟨a, xs, rfl, _⟩ := rp_lst.mp h; rfl
  | tuple ds => obtain ⟨a, xs, rfl, _⟩ := rp_tup.mp h; rfl
  | dict _ => unfold Rp at h; exact h.elim
theorem o2_isN {K : PySem.W.Frag} : Op2 K rIsN kIsN := by
  rintro F S σ ρ H x y d e Q hF E h1 h2 ⟨rfl, hq⟩ Q' k
  exact ⟨rp_non.mp h2, ans (F := F) (S := S) (σ := σ) (ρ := ρ) k (rp_bl.mpr rfl) (by rw [isN_of h1]; exact hq)⟩
theorem o2_notN {K : PySem.W.Frag} : Op2 K rNotN kNotN := by
  rintro F S σ ρ H x y d e Q hF E h1 h2 ⟨rfl, hq⟩ Q' k
  exact ⟨rp_non.mp h2, ans (F := F) (S := S) (σ := σ) (ρ := ρ) k (rp_bl.mpr rfl) (by rw [isN_of h1]; exact hq)⟩
theorem op_isNR : OpR X (compareOp .Is) rIsN := op_isN
theorem op_notNR : OpR X (compareOp .IsNot) rNotN := op_notN
/-- x in y: one sign in a text; data in a list -/
def inn (d e : PyData) (Q : Bool → Prop) : Prop := match e with
  | .str z => ∃ c, d = .str ⟨#[c]⟩ ∧ Q (decide (c ∈ z.cps.toList))
  | .list ds => SeqAt.shaped d = true ∧ SeqAt.shaped (.list ds) = true ∧ Q (ds.any fun z => PyData.eqv z d)
  | _ => False
def rInS : R2 := fun x y H Q => ∃ (c : Nat) (z : Str), x = .str ⟨#[c]⟩ ∧ y = .str z ∧ Q (.bl (decide (c ∈ z.cps.toList))) H
def rNinS : R2 := fun x y H Q => ∃ (c : Nat) (z : Str), x = .str ⟨#[c]⟩ ∧ y = .str z ∧ Q (.bl (!decide (c ∈ z.cps.toList))) H
def rInA (K : PySem.W.Frag) : R2 := fun x y H Q => rInS x y H Q ∨ rInD K x y H Q
def rNinA (K : PySem.W.Frag) : R2 := fun x y H Q => rNinS x y H Q ∨ rNotInD K x y H Q
theorem op_inA (hu : X.A.units + 65 < cLine) : OpR X (compareOp .In) (rInA X.K) := OpR.or (r := rInS) op_in_sign (op_inD hu)
theorem op_ninA (hu : X.A.units + 65 < cLine) : OpR X (compareOp .NotIn) (rNinA X.K) := OpR.or (r := rNinS) op_notIn_sign (op_notInD hu)
def kIn : PyData → PyData → (SD → Prop) → Prop := fun d e Q => inn d e fun b => Q (.dt (.bool b))
def kNin : PyData → PyData → (SD → Prop) → Prop := fun d e Q => inn d e fun b => Q (.dt (.bool (!b)))
theorem inn_cases {d e : PyData} {Q : Bool → Prop} (h : inn d e Q) : (∃ c z, d = .str ⟨#[c]⟩ ∧ e = .str z ∧ Q (decide (c ∈ z.cps.toList))) ∨ (∃ ds, e = .list ds ∧ SeqAt.shaped d = true ∧ SeqAt.shaped (.list ds) = true ∧ Q (ds.any fun z => PyData.eqv z d)) := by
  unfold inn at h
  split at h
  · obtain ⟨c, e1, q⟩ := h; exact .inl ⟨c, _, e1, rfl, q⟩
  · exact .inr ⟨_, rfl, h⟩
  · exact h.elim
theorem o2_in {K : PySem.W.Frag} : Op2 K (rInA K) kIn := by
  intro F S σ ρ H x y d e Q hF E h1 h2 hq Q' k
  rcases inn_cases hq with ⟨c, z, rfl, rfl, q⟩ | ⟨ds, rfl, s1, s2, q⟩
  · exact .inl ⟨c, z, rp_str.mp h1, rp_str.mp h2, ans (F := F) (S := S) (σ := σ) (ρ := ρ) k (rp_bl.mpr rfl) q⟩
  · exact .inr ⟨d, ds, (h1.mono hide_le).dp, (h2.mono hide_le).dp, s1, s2, ans (F := F) (S := S) (σ := σ) (ρ := ρ) k (rp_bl.mpr rfl) q⟩
theorem o2_nin {K : PySem.W.Frag} : Op2 K (rNinA K) kNin := by
  intro F S σ ρ H x y d e Q hF E h1 h2 hq Q' k
  rcases inn_cases hq with ⟨c, z, rfl, rfl, q⟩ | ⟨ds, rfl, s1, s2, q⟩
  · exact .inl ⟨c, z, rp_str.mp h1, rp_str.mp h2, ans (F := F) (S := S) (σ := σ) (ρ := ρ) k (rp_bl.mpr rfl) q⟩
  · exact .inr ⟨d, ds, (h1.mono hide_le).dp, (h2.mono hide_le).dp, s1, s2, ans (F := F) (S := S) (σ := σ) (ρ := ρ) k (rp_bl.mpr rfl) q⟩
end
/-! ### subscripts -/
def ixq (d e : PyData) (Q : SD → Prop) : Prop := match d, e with
  | .list ds, .int i => ∃ z, atI ds i = some z ∧ Q (.dt z)
  | .tuple ds, .int i => ∃ z, atI ds i = some z ∧ Q (.dt z)
  | .str x, .int i => x.length ≤ sizeLine ∧ ∃ c, atI x.cps.toList i = some c ∧ Q (.dt (.str ⟨#[c]⟩))
  | _, _ => False
theorem atI_len {α β : Type} {xs : List α} {ys : List β} (h : xs.length = ys.length) {i : Int} {z : β} (e : atI ys i = some z) : ∃ j, ixN xs.length i = some j ∧ ys[j]? = some z := by
  unfold atI at e
  cases q : ixN ys.length i with
  | none => rw [q] at e; cases e
  | some j => rw [q] at e; exact ⟨j, by rw [h]; exact q, e⟩
theorem RpL.atI {K : PySem.W.Frag} {H : Hp} {ds : List PyData} {xs : List V} {i : Int} {z : PyData} (r : RpL K H ds xs) (e : L2.atI ds i = some z) : ∃ v, L2.atI xs i = some v ∧ Rp K H z v := by
  obtain ⟨j, h1, h2⟩ := atI_len r.len e
  obtain ⟨v, h3, h4⟩ := r.get h2
  refine ⟨v, ?_, h4⟩
  unfold L2.atI
  rw [h1]
  exact h3
section
variable {K : PySem.W.Frag}
theorem o2_ix : Op2 K (rIx K) ixq := by
  intro F S σ ρ H x y d e Q hF E h1 h2 hq Q' k
  subst hF
  unfold ixq at hq
  split at hq
  · obtain ⟨z, hz, hq⟩ := hq
    obtain ⟨a, xs, rfl, ha, ra⟩ := rp_lst.mp h1
    obtain ⟨v, hv, rv⟩ := ra.atI hz
    exact .inl ⟨a, xs, _, v, rfl, rp_int.mp h2, sql_mono hide_le ha, hv, ans (F := F) (S := S) (σ := σ) (ρ := ρ) k rv hq⟩
  · obtain ⟨z, hz, hq⟩ := hq
    obtain ⟨a, xs, rfl, ha, ra⟩ := rp_tup.mp h1
    obtain ⟨v, hv, rv⟩ := ra.atI hz
    exact .inr (.inl ⟨a, xs, _, v, rfl, rp_int.mp h2, sqt_mono hide_le ha, hv, ans (F := F) (S := S) (σ := σ) (ρ := ρ) k rv hq⟩)
  · obtain ⟨hz, c, hc, hq⟩ := hq
    exact .inr (.inr ⟨_, _, c, rp_str.mp h1, rp_int.mp h2, hz, hc, ans (F := F) (S := S) (σ := σ) (ρ := ρ) k (rp_str.mpr rfl) hq⟩)
  · exact hq.elim
end
section
variable {X : Cx} {a b e : Expr} {ta tb te : TE} {qa qb qe : QE} {pos p2 : Pos}
theorem dq_ix (ha : DQ X a ta qa) (hb : DQ X b tb qb) (hs : PlainIx b := by intro _ _; rfl) : DQ X (.Subscript a b pos) (tOp (rIx X.K) ta tb) (q2 ixq qa qb) := ⟨pe_ix ix_seq ha.pe hb.pe hs, sim_2 o2_ix ha hb⟩
/-! ### slices of lists and texts -/
abbrev QO := List SD → (Option Int → List SD → Prop) → Prop
structure DO (X : Cx) (e : Option Expr) (t : TO) (q : QO) : Prop where
  po : PO X e t
  sim : ∀ F : Fm, F.K = X.K → ∀ ρ Q, q ρ Q → ∀ S σ H, En F S σ H ρ → ∀ Q' : Option Int → Hp → Prop, (∀ o H' ρ', En F S σ H' ρ' → Gr F S σ.length H H' → Q o ρ' → Q' o H') → t σ H Q'
def qNoPart : QO := fun ρ Q => Q none ρ
def qPart (q : QE) : QO := fun ρ Q => q ρ fun s ρ1 => ∃ i, s.dat = .int i ∧ Q (some i) ρ1
theorem do_none : DO X none tNoPart qNoPart := ⟨po_none, fun F hF ρ Q hq S σ H E Q' k => k none H ρ E (Gr.refl _ _ _ _) hq⟩
theorem do_some (h : DQ X e te qe) : DO X (some e) (tPart te) (qPart qe) := by
  refine ⟨po_some h.pe, fun F hF ρ Q hq S σ H E Q' k => ?_⟩
  refine h.sim F hF ρ _ hq S σ H E _ fun s v H1 ρ1 E1 e1 r1 ⟨i, hi, hq1⟩ => ?_
  have := r1.rp E
  rw [hi] at this
  exact ⟨i, rp_int.mp this, k (some i) H1 ρ1 E1 e1 hq1⟩
def cutD (xs : List PyData) (lo hi : Option Int) : List PyData := (xs.drop (HT.sIx xs.length 0 lo)).take (HT.sIx xs.length xs.length hi - HT.sIx xs.length 0 lo)
def slq (d : PyData) (lo hi : Option Int) (Q : SD → Prop) : Prop := match d with
  | .list ds => Q (.ow (cutD ds lo hi))
  | .str z => z.length ≤ sizeLine ∧ Q (.dt (.str (cutS z lo hi)))
  | _ => False
def qSl (qe : QE) (ql qh : QO) : QE := fun ρ Q => qe ρ fun s ρ1 => ql ρ1 fun l ρ2 => qh ρ2 fun h ρ3 => slq s.dat l h fun r => Q r ρ3
def rSlA (K : PySem.W.Frag) : V → Option Int → Option Int → Hp → VK → Prop := fun x lo hi H Q => rSlL K x lo hi H Q ∨ rSlS x lo hi H Q
theorem dq_slice {lo hi : Option Expr} {tl th : TO} {ql qh : QO} (he : DQ X e te qe) (hl : DO X lo tl ql) (hu : DO X hi th qh) : DQ X (.Subscript e (.Slice lo hi none p2) pos) (tSl (rSlA X.K) te tl th) (qSl qe ql qh) := by
  refine ⟨pe_slice (sl_list.or sl_str) he.pe hl.po hu.po, fun F hF ρ Q hq S σ H E Q' k => ?_⟩
  refine he.sim F hF ρ _ hq S σ H E _ fun s v H1 ρ1 E1 e1 r1 hq1 => ?_
  refine hl.sim F hF ρ1 _ hq1 S σ H1 E1 _ fun l H2 ρ2 E2 e2 hq2 => ?_
  refine hu.sim F hF ρ2 _ hq2 S σ H2 E2 _ fun h H3 ρ3 E3 e3 hq3 => ?_
  have rv := ((r1.rp E).mono e2.same).mono e3.same
  have G := e1.trans (e2.trans e3)
  unfold slq at hq3
  split at hq3
  · rename_i ds hd
    rw [hd] at rv
    obtain ⟨a, xs, rfl, ha, ra⟩ := rp_lst.mp rv
    refine .inl ⟨a, xs, rfl, hF ▸ sql_mono hide_le ha, fun p np => ?_⟩
    have rc : RpL F.K (hid F S H3) (cutD ds l h) (cutV xs l h) := by
      unfold cutD cutV
      rw [ra.len]
      exact (ra.drop _).take _
    exact ansL (Q := fun s => Q s ρ3) E3 (fun s v H' e' r' hq' => k s v H' ρ3 (E3.ext e') (G.trans (Gr.ext E3 e')) (r'.back E E3 G.same) hq') np rc hq3
  · rename_i z hd
    rw [hd] at rv
    exact .inr ⟨z, rp_str.mp rv, hq3.1, k (.dt (.str (cutS z l h))) _ H3 ρ3 E3 G (RpS.of (rp_str.mpr rfl)) hq3.2⟩
  · exact hq3.elim
/-- xs[::-1] -/
def qRevL (q : QE) : QE := fun ρ Q => q ρ fun s ρ1 => ∃ ds, s.dat = .list ds ∧ Q (.ow ds.reverse) ρ1
theorem dq_revL {k : Nat} {p1 p2' p3 : Pos} (h : DQ X e te qe) : DQ X (.Subscript e (.Slice none none (some (.UnaryOp .USub (.Constant (.int 1) k p1) p2')) p3) pos) (tRevL X.K te) (qRevL qe) := by
  refine ⟨pe_revL h.pe, fun F hF ρ Q hq S σ H E Q' k => ?_⟩
  refine h.sim F hF ρ _ hq S σ H E _ fun s v H1 ρ1 E1 e1 r1 ⟨ds, hd, hq1⟩ => ?_
  have rv := r1.rp E
  rw [hd] at rv
  obtain ⟨a, xs, rfl, ha, ra⟩ := rp_lst.mp rv
  refine ⟨a, xs, rfl, hF ▸ sql_mono hide_le ha, fun p np => ?_⟩
  exact ansL (Q := fun s => Q s ρ1) E1 (fun s v H' e' r' hq' => k s v H' ρ1 (E1.ext e') (e1.trans (Gr.ext E1 e')) (r'.back E E1 e1.same) hq') np ra.reverse hq1
end

/-! ### built-in functions -/
section
variable {X : Cx} {a e o : Expr} {es : List Expr} {ta te to : TE} {t : TA} {qa qe qo : QE} {q : QA} {x : Str} {pos p : Pos}
theorem sim_cb {r : List V → Hp → VK → Prop} {qr : List PyData → (SD → Prop) → Prop} (ho : OpA X.K r qr) (ha : DA X es t q) : ∀ F : Fm, F.K = X.K → ∀ ρ Q, qCB qr q ρ Q → Ev F (tCB r t) ρ Q := by
  intro F hF ρ Q hq S σ H E Q' k
  refine ha.sim F hF ρ _ hq S σ H E _ fun ds vs H1 ρ1 E1 e1 r1 hq1 => ?_
  refine ho F S σ ρ1 H1 vs ds _ hF E1 (hF ▸ r1) hq1 _ fun s3 v3 H3 e3 r3 hq3 => ?_
  exact k s3 v3 H3 ρ1 (E1.ext e3) (e1.trans (Gr.ext E1 e3)) (r3.back E E1 e1.same) hq3
theorem dq_callB {id : String} {r : List V → Hp → VK → Prop} {qr : List PyData → (SD → Prop) → Prop} (hc : CallR X (.builtin id) r) (ho : OpA X.K r qr) (hg : Gl X x) (hm : X.mg x = none) (hv : bootBuiltins x = some (.builtin id)) (ha : DA X (e :: es) t q) (hn : x ≠ "__name__" := by decide) (hdb : (x == ("__debug__" : Str)) = false := by decide)
    (he : starEach (e :: es) X.env = (false, eval e X.env) :: starEach es X.env := by rfl) (hpl : (backTo pos (starEach es X.env)).any (·.1) = false := by rfl) : DQ X (.Call (.Name x p) (e :: es) [] pos) (tCB r t) (qCB qr q) :=
  ⟨pe_callB hc hg hm hv ha.pa hn hdb he hpl, sim_cb ho ha⟩
theorem dq_callTy {T : String} {r : List V → Hp → VK → Prop} {qr : List PyData → (SD → Prop) → Prop} (hc : CallR X (.type T) r) (ho : OpA X.K r qr) (hg : Gl X x) (hm : X.mg x = none) (hv : bootBuiltins x = some (.type T)) (ha : DA X (e :: es) t q) (hn : x ≠ "__name__" := by decide) (hdb : (x == ("__debug__" : Str)) = false := by decide)
    (he : starEach (e :: es) X.env = (false, eval e X.env) :: starEach es X.env := by rfl) (hpl : (backTo pos (starEach es X.env)).any (·.1) = false := by rfl) : DQ X (.Call (.Name x p) (e :: es) [] pos) (tCB r t) (qCB qr q) :=
  ⟨pe_callTy hc hg hm hv ha.pa hn hdb he hpl, sim_cb ho ha⟩
theorem RpL.one_inv {K : PySem.W.Frag} {H : Hp} {d : PyData} {xs : List V} (h : RpL K H [d] xs) : ∃ x, xs = [x] ∧ Rp K H d x := by
  obtain ⟨x, r, rfl, h1, h2⟩ := rpl_cons.mp h
  rw [rpl_nil.mp h2]
  exact ⟨x, rfl, h1⟩
theorem RpL.two_inv {K : PySem.W.Frag} {H : Hp} {d e : PyData} {xs : List V} (h : RpL K H [d, e] xs) : ∃ x y, xs = [x, y] ∧ Rp K H d x ∧ Rp K H e y := by
  obtain ⟨x, r, rfl, h1, h2⟩ := rpl_cons.mp h
  obtain ⟨y, rfl, h3⟩ := h2.one_inv
  exact ⟨x, y, rfl, h1, h3⟩
/-- len -/
def rLenA (K : PySem.W.Frag) : List V → Hp → VK → Prop := fun xs H Q => (∃ p ys, xs = [.ref p] ∧ (SqL K H p ys ∨ SqT K H p ys) ∧ Q (.int ys.length) H) ∨ (∃ z, xs = [.str z] ∧ z.length ≤ sizeLine ∧ Q (.int z.length) H)
theorem cr_len : CallR X (.builtin "len") (rLenA X.K) := call_len_seq.or call_len_str
def kLen : List PyData → (SD → Prop) → Prop := fun ds Q => ∃ d, ds = [d] ∧ match d with
  | .list xs => Q (.dt (.int xs.length))
  | .tuple xs => Q (.dt (.int xs.length))
  | .str z => z.length ≤ sizeLine ∧ Q (.dt (.int z.length))
  | _ => False
theorem oa_len {K : PySem.W.Frag} : OpA K (rLenA K) kLen := by
  rintro F S σ ρ H xs ds Q rfl E h1 ⟨d, rfl, hq⟩ Q' k
  obtain ⟨x, rfl, h2⟩ := h1.one_inv
  split at hq
  · obtain ⟨a, ys, rfl, ha, ra⟩ := rp_lst.mp h2
    exact .inl ⟨a, ys, rfl, .inl (sql_mono hide_le ha), by rw [ra.len]; exact ans (F := F) (S := S) (σ := σ) (ρ := ρ) k (rp_int.mpr rfl) hq⟩
  · obtain ⟨a, ys, rfl, ha, ra⟩ := rp_tup.mp h2
    exact .inl ⟨a, ys, rfl, .inr (sqt_mono hide_le ha), by rw [ra.len]; exact ans (F := F) (S := S) (σ := σ) (ρ := ρ) k (rp_int.mpr rfl) hq⟩
  · exact .inr ⟨_, by rw [rp_str.mp h2], hq.1, ans (F := F) (S := S) (σ := σ) (ρ := ρ) k (rp_int.mpr rfl) hq.2⟩
  · exact hq.elim
/-- abs, max and min of two, int, str of a number, int of a text -/
def rAbs : List V → Hp → VK → Prop := fun xs H Q => ∃ i, xs = [.int i] ∧ Q (.int (if i < 0 then -i else i)) H
def kAbs : List PyData → (SD → Prop) → Prop := fun ds Q => ∃ i, ds = [.int i] ∧ Q (.dt (.int (if i < 0 then -i else i)))
theorem oa_abs {K : PySem.W.Frag} : OpA K rAbs kAbs := by
  rintro F S σ ρ H xs ds Q rfl E h1 ⟨i, rfl, hq⟩ Q' k
  obtain ⟨x, rfl, h2⟩ := h1.one_inv
  exact ⟨i, by rw [rp_int.mp h2], ans (F := F) (S := S) (σ := σ) (ρ := ρ) k (rp_int.mpr rfl) hq⟩
theorem cr_abs : CallR X (.builtin "abs") rAbs := call_abs
def rMax2 : List V → Hp → VK → Prop := fun xs H Q => ∃ i j, xs = [.int i, .int j] ∧ Q (.int (if j > i then j else i)) H
def kMax2 : List PyData → (SD → Prop) → Prop := fun ds Q => ∃ i j, ds = [.int i, .int j] ∧ Q (.dt (.int (if j > i then j else i)))
theorem oa_max2 {K : PySem.W.Frag} : OpA K rMax2 kMax2 := by
  rintro F S σ ρ H xs ds Q rfl E h1 ⟨i, j, rfl, hq⟩ Q' k
  obtain ⟨x, y, rfl, h2, h3⟩ := h1.two_inv
  exact ⟨i, j, by rw [rp_int.mp h2, rp_int.mp h3], ans (F := F) (S := S) (σ := σ) (ρ := ρ) k (rp_int.mpr rfl) hq⟩
theorem cr_max2 (hc : X.calm = true) : CallR X (.builtin "max") rMax2 := call_max2 hc
def rIntA : List V → Hp → VK → Prop := fun xs H Q => ((∃ i, xs = [.int i] ∧ Q (.int i) H) ∨ ∃ k, xs = [.bl k] ∧ Q (.int (if k then 1 else 0)) H) ∨ ∃ a n, xs = [.str a] ∧ PySem.intText? a = some n ∧ a.length ≤ 640 ∧ Q (.int n) H
theorem cr_int : CallR X (.type "int") rIntA := call_int1.or call_int_str
def kInt : List PyData → (SD → Prop) → Prop := fun ds Q => ∃ d, ds = [d] ∧ match d with
  | .int i => Q (.dt (.int i))
  | .str a => a.length ≤ 640 ∧ ∃ n, PySem.intText? a = some n ∧ Q (.dt (.int n))
  | _ => False
theorem oa_int {K : PySem.W.Frag} : OpA K rIntA kInt := by
  rintro F S σ ρ H xs ds Q rfl E h1 ⟨d, rfl, hq⟩ Q' k
  obtain ⟨x, rfl, h2⟩ := h1.one_inv
  split at hq
  · exact .inl (.inl ⟨_, by rw [rp_int.mp h2], ans (F := F) (S := S) (σ := σ) (ρ := ρ) k (rp_int.mpr rfl) hq⟩)
  · obtain ⟨hl, n, hn, hq⟩ := hq
    exact .inr ⟨_, n, by rw [rp_str.mp h2], hn, hl, ans (F := F) (S := S) (σ := σ) (ρ := ρ) k (rp_int.mpr rfl) hq⟩
  · exact hq.elim
def rStrI : List V → Hp → VK → Prop := fun xs H Q => ∃ i, xs = [.int i] ∧ i.natAbs.log2 < 1920 ∧ Q (.str (toString i)) H
theorem cr_str : CallR X (.type "str") rStrI := call_str_int
def kStr : List PyData → (SD → Prop) → Prop := fun ds Q => ∃ i, ds = [.int i] ∧ i.natAbs.log2 < 1920 ∧ Q (.dt (.str (toString i)))
theorem oa_str {K : PySem.W.Frag} : OpA K rStrI kStr := by
  rintro F S σ ρ H xs ds Q rfl E h1 ⟨i, rfl, hz, hq⟩ Q' k
  obtain ⟨x, rfl, h2⟩ := h1.one_inv
  exact ⟨i, by rw [rp_int.mp h2], hz, ans (F := F) (S := S) (σ := σ) (ρ := ρ) k (rp_str.mpr rfl) hq⟩
/-- sum, all, any -/
def kSum : List PyData → (SD → Prop) → Prop := fun ds Q => ∃ ns : List Int, ds = [.list (ns.map .int)] ∧ Q (.dt (.int ns.sum))
def kAll : List PyData → (SD → Prop) → Prop := fun ds Q => ∃ bs : List Bool, ds = [.list (bs.map .bool)] ∧ Q (.dt (.bool (bs.all id)))
def kAny : List PyData → (SD → Prop) → Prop := fun ds Q => ∃ bs : List Bool, ds = [.list (bs.map .bool)] ∧ Q (.dt (.bool (bs.any id)))
theorem oa_sum {K : PySem.W.Frag} : OpA K (rSum K) kSum := by
  rintro F S σ ρ H xs ds Q rfl E h1 ⟨ns, rfl, hq⟩ Q' k
  obtain ⟨x, rfl, h2⟩ := h1.one_inv
  obtain ⟨a, ys, rfl, ha, ra⟩ := rp_lst.mp h2
  exact ⟨a, ns, rfl, (by rw [← ra.ints_inv]; exact sql_mono hide_le ha), ans (F := F) (S := S) (σ := σ) (ρ := ρ) k (rp_int.mpr rfl) hq⟩
theorem oa_all {K : PySem.W.Frag} : OpA K (rAll K) kAll := by
  rintro F S σ ρ H xs ds Q rfl E h1 ⟨ns, rfl, hq⟩ Q' k
  obtain ⟨x, rfl, h2⟩ := h1.one_inv
  obtain ⟨a, ys, rfl, ha, ra⟩ := rp_lst.mp h2
  exact ⟨a, ns, rfl, (by rw [← ra.bls_inv]; exact sql_mono hide_le ha), ans (F := F) (S := S) (σ := σ) (ρ := ρ) k (rp_bl.mpr rfl) hq⟩
theorem oa_any {K : PySem.W.Frag} : OpA K (rAny K) kAny := by
  rintro F S σ ρ H xs ds Q rfl E h1 ⟨ns, rfl, hq⟩ Q' k
  obtain ⟨x, rfl, h2⟩ := h1.one_inv
  obtain ⟨a, ys, rfl, ha, ra⟩ := rp_lst.mp h2
  exact ⟨a, ns, rfl, (by rw [← ra.bls_inv]; exact sql_mono hide_le ha), ans (F := F) (S := S) (σ := σ) (ρ := ρ) k (rp_bl.mpr rfl) hq⟩
/-- isinstance(x, T), T a built-in class by name -/
def tyD : PyData → String
  | .none => "NoneType" | .bool _ => "bool" | .int _ => "int" | .str _ => "str" | .list _ => "list" | .tuple _ => "tuple" | .dict _ => "dict"
theorem tyx_of {K : PySem.W.Frag} {H : Hp} {d : PyData} {x : V} (h : Rp K H d x) : TyX K H x (.type (tyD d)) := by
  cases d with
  | none => rw [rp_non.mp h]; exact .base .non
  | bool b => rw [rp_bl.mp h]; exact .base (.bl b)
  | int i => rw [rp_int.mp h]; exact .base (.int i)
  | str z => rw [rp_str.mp h]; exact .base (.str z)
  | list ds =>
    obtain ⟨a, xs, rfl, ha, _⟩ := rp_lst.mp h
    rcases ha with (ha | ⟨o, ha⟩) | ⟨o, its, n, hk, hc, _⟩
    · exact .base (.lst ha)
    · exact .base (.frz ha)
    · exact .kList hk hc
  | tuple ds =>
    obtain ⟨a, xs, rfl, ha, _⟩ := rp_tup.mp h
    rcases ha with (ha | ⟨o, ha⟩) | ⟨o, its, n, hk, hc, _⟩
    · exact .base (.tup ha)
    · exact .fTuple ha
    · exact .kTuple hk hc
  | dict _ => unfold Rp at h; exact h.elim
def qIsi (n : String) (qa : QE) : QE := fun ρ Q => qa ρ fun s ρ1 => ∃ b, kitB (tyD s.dat) n = some b ∧ Q (.dt (.bool b)) ρ1
theorem dq_isi {n : String} {y : Str} {p' : Pos} (hg : Gl X "isinstance") (hm : X.mg "isinstance" = none) (hgT : Gl X y) (hmT : X.mg y = none) (hv : bootBuiltins y = some (.type n)) (ha : DQ X a ta qa) (hn : y ≠ "__name__" := by decide) (hdb : (y == ("__debug__" : Str)) = false := by decide)
    (h1 : starEach [a, .Name y p'] X.env = (false, eval a X.env) :: starEach [.Name y p'] X.env := by rfl) (h2 : starEach [.Name y p'] X.env = (false, eval (.Name y p') X.env) :: starEach [] X.env := by rfl) (hpl : (backTo pos (starEach [.Name y p'] X.env)).any (·.1) = false := by rfl) :
    DQ X (.Call (.Name "isinstance" p) [a, .Name y p'] [] pos) (tCB (rIsi X.K) (tCons ta (tCons (tC (.ty n)) tNil))) (qIsi n qa) := by
  refine ⟨pe_callB call_isi hg hm (by decide +kernel) (pa_cons ha.pe (pa_cons (pe_bltn hgT hmT hv rfl hn hdb) pa_nil h2) h1) (by decide) (by decide) h1 hpl, fun F hF ρ Q hq S σ H E Q' k => ?_⟩
  refine ha.sim F hF ρ _ hq S σ H E _ fun s v H1 ρ1 E1 e1 r1 ⟨b, hb, hq1⟩ => ?_
  refine ⟨v, .ty n, .type (tyD s.dat), .type n, b, rfl, .ty n, hF ▸ tyx_of ((r1.rp E).mono hide_le), kit_ty hb, ?_⟩
  exact k (.dt (.bool b)) _ H1 ρ1 E1 e1 RpS.ofbl hq1
/-! ### methods -/
/-- x.split(y) -/
def qSplit (qo qe : QE) : QE := fun ρ Q => qo ρ fun s ρ1 => ∃ x, s.dat = .str x ∧ qe ρ1 fun s2 ρ2 => ∃ y, s2.dat = .str y ∧ (y.length == 0) = false ∧ x.length + 2 ≤ sizeLine ∧ Q (.ow ((Txt.split x y).map .str)) ρ2
theorem dq_split {apos : Pos} (hO : DQ X o to qo) (he : DQ X e te qe) (hs : starEach [e] X.env = [(false, eval e X.env)] := by rfl) (hbase : attributeBase o "split" X.env (eval o X.env) = eval o X.env := by rfl) (hline : (apos.endLine == pos.line) = true := by rfl) :
    DQ X (.Call (.Attribute o "split" apos) [e] [] pos) (tM1 (fun x xs H Q => ∃ a b, x = .str a ∧ xs = [.str b] ∧ (b.length == 0) = false ∧ a.length + 2 ≤ sizeLine ∧ rNewStrs (Txt.split a b) H Q) to te) (qSplit qo qe) := by
  refine ⟨pe_split hO.pe he.pe hs hbase hline, fun F hF ρ Q hq S σ H E Q' k => ?_⟩
  refine hO.sim F hF ρ _ hq S σ H E _ fun s v H1 ρ1 E1 e1 r1 ⟨x, hx, hq1⟩ => ?_
  have rv := r1.rp E
  rw [hx] at rv
  refine ⟨⟨x, rp_str.mp rv⟩, ?_⟩
  refine he.sim F hF ρ1 _ hq1 S σ H1 E1 _ fun s2 v2 H2 ρ2 E2 e2 r2 ⟨y, hy, h0, hz, hq2⟩ => ?_
  have rv2 := r2.rp E1
  rw [hy] at rv2
  refine ⟨x, y, rp_str.mp rv, by rw [rp_str.mp rv2], h0, hz, fun p np => ?_⟩
  exact ansL (Q := fun s => Q s ρ2) E2 (fun s v H' e' r' hq' => k s v H' ρ2 (E2.ext e') (e1.trans (e2.trans (Gr.ext E2 e'))) (r'.back E E2 (e1.trans e2).same) hq') np (RpL.strs _) hq2
/-- x.join(ys) -/
def qJoin (qo qe : QE) : QE := fun ρ Q => qo ρ fun s ρ1 => ∃ x, s.dat = .str x ∧ qe ρ1 fun s2 ρ2 => ∃ ys : List Str, s2.dat = .list (ys.map .str) ∧ (ys.map (·.length)).sum + ys.length * x.length ≤ 16777216 ∧ Q (.dt (.str (Txt.join x ys))) ρ2
theorem dq_join {apos : Pos} (hO : DQ X o to qo) (he : DQ X e te qe) (hs : starEach [e] X.env = [(false, eval e X.env)] := by rfl) (hbase : attributeBase o "join" X.env (eval o X.env) = eval o X.env := by rfl) (hline : (apos.endLine == pos.line) = true := by rfl) :
    DQ X (.Call (.Attribute o "join" apos) [e] [] pos) (tM1 (fun x xs H Q => ∃ a p, ∃ ys : List Str, x = .str a ∧ xs = [.ref p] ∧ (SqL X.K H p (ys.map V.str) ∨ SqT X.K H p (ys.map V.str)) ∧
      (ys.map (·.length)).sum + ys.length * a.length ≤ 16777216 ∧ Q (.str (Txt.join a ys)) H) to te) (qJoin qo qe) := by
  refine ⟨pe_join hO.pe he.pe hs hbase hline, fun F hF ρ Q hq S σ H E Q' k => ?_⟩
  refine hO.sim F hF ρ _ hq S σ H E _ fun s v H1 ρ1 E1 e1 r1 ⟨x, hx, hq1⟩ => ?_
  have rv := r1.rp E
  rw [hx] at rv
  refine ⟨⟨x, rp_str.mp rv⟩, ?_⟩
  refine he.sim F hF ρ1 _ hq1 S σ H1 E1 _ fun s2 v2 H2 ρ2 E2 e2 r2 ⟨ys, hy, hz, hq2⟩ => ?_
  have rv2 := r2.rp E1
  rw [hy] at rv2
  obtain ⟨a, vs, rfl, ha, ra⟩ := rp_lst.mp rv2
  refine ⟨x, a, ys, rp_str.mp rv, rfl, .inl (by rw [← ra.strs_inv, ← hF]; exact sql_mono hide_le ha), hz, ?_⟩
  exact k (.dt (.str (Txt.join x ys))) _ H2 ρ2 E2 (e1.trans e2) (RpS.of (rp_str.mpr rfl)) hq2
/-- x.bit_length() -/
def qBits (qo : QE) : QE := fun ρ Q => qo ρ fun s ρ1 => ∃ i, s.dat = .int i ∧ Q (.dt (.int (Builtin.Int.intBits i : Nat))) ρ1
theorem dq_bits {apos : Pos} (hO : DQ X o to qo) (hbase : attributeBase o "bit_length" X.env (eval o X.env) = eval o X.env := by rfl) (hline : (apos.endLine == pos.line) = true := by rfl) : DQ X (.Call (.Attribute o "bit_length" apos) [] [] pos) (tBits to) (qBits qo) := by
  refine ⟨pe_bits hO.pe hbase hline, fun F hF ρ Q hq S σ H E Q' k => ?_⟩
  refine hO.sim F hF ρ _ hq S σ H E _ fun s v H1 ρ1 E1 e1 r1 ⟨i, hi, hq1⟩ => ?_
  have rv := r1.rp E
  rw [hi] at rv
  exact ⟨i, rp_int.mp rv, k (.dt (.int _)) _ H1 ρ1 E1 e1 (RpS.of (rp_int.mpr rfl)) hq1⟩
end
end DL
set_option Elab.async false
set_option linter.all false
set_option maxRecDepth 100000
set_option autoImplicit false
/-! DL3: statements, loops, comprehensions, own lists, calls, defs at the data level. -/
namespace DL
open PySem PySem.Spec PyProof.Rows L2

structure DEnds where
  nx : List SD → Prop
  rt : SD → List SD → Prop
  bk : List SD → Prop := fun _ => False
  ct : List SD → Prop := fun _ => False
abbrev QS := DEnds → List SD → Prop
/-- what a def hands back -/
def RpT (F : Fm) (S : List (Option Addr)) (H' : Hp) (ρ' : List SD) (r : SD) (v : V) : Prop := match r with
  | .dt d => Rp F.K (hid F S H') d v
  | .ow xs => ∃ p vs, v = .ref p ∧ F.H0 p = none ∧ H' p = some (.lst vs) ∧ RpL F.K (hide (fun b => hp F S b ∨ b = p) H') xs vs ∧
      ∀ (i : Nat) (ws : List PyData) (a : Addr), ρ'[i]? = some (.pw ws) → S[i]? = some (some a) → ∃ us, H' a = some (.lst us) ∧ RpL F.K (hide (fun b => hp F S b ∨ b = p) H') ws us
  | _ => False
def EvS (F : Fm) (t : TS) (ρ : List SD) (D : DEnds) : Prop :=
  ∀ S σ H, En F S σ H ρ → ∀ D' : Ends,
    (∀ S' σ' H' ρ', En F S' σ' H' ρ' → Same (hid F S H) (hid F S' H') → D.nx ρ' → D'.nx σ' H') →
    (∀ S' σ' H' ρ', En F S' σ' H' ρ' → Same (hid F S H) (hid F S' H') → D.bk ρ' → D'.bk σ' H') →
    (∀ S' σ' H' ρ', En F S' σ' H' ρ' → Same (hid F S H) (hid F S' H') → D.ct ρ' → D'.ct σ' H') →
    (∀ S' σ' H' ρ' r v, En F S' σ' H' ρ' → RpT F S' H' ρ' r v → D.rt r ρ' → D'.rt v H') → t D' σ H
structure DS (X : Cx) (st : Stmt) (t : TS) (q : QS) : Prop where
  ps : PS X st t
  sim : ∀ F : Fm, F.K = X.K → ∀ ρ D, q D ρ → EvS F t ρ D
structure DSs (X : Cx) (sts : List Stmt) (t : TS) (q : QS) : Prop where
  ps : PSs X sts t
  sim : ∀ F : Fm, F.K = X.K → ∀ ρ D, q D ρ → EvS F t ρ D
theorem RpT.of {F : Fm} {S : List (Option Addr)} {H' : Hp} {ρ' : List SD} {d : PyData} {v : V} (h : Rp F.K (hid F S H') d v) : RpT F S H' ρ' (.dt d) v := h
theorem hide_congr {p q : Addr → Prop} {H : Hp} (h : ∀ b, p b ↔ q b) : hide p H = hide q H := by
  have : p = q := funext fun b => propext (h b)
  rw [this]
theorem hid_snoc {F : Fm} {S : List (Option Addr)} {p : Addr} {H : Hp} : hid F (S ++ [some p]) H = hide (fun b => hp F S b ∨ b = p) H := hide_congr fun b => hp_snoc
theorem RpS.toT {F : Fm} {S : List (Option Addr)} {σ : St} {ρ ρ' : List SD} {H H' : Hp} {r : SD} {v : V} (E : En F S σ H ρ) (h : RpS F S σ ρ' H H' r v) : RpT F S H' ρ' r v := by
  cases r with
  | un => exact h.elim
  | pw _ => exact h.elim
  | dt d => exact h
  | ow xs =>
    obtain ⟨p, vs, rfl, h1, h2, h3, h4⟩ := h
    rw [hid_snoc] at h3
    refine ⟨p, vs, rfl, E.dom h1, h2, h3, fun i ws a hi hs => ?_⟩
    obtain ⟨b, us, q1, q2, q3, q4, q5⟩ := h4.at_ i _ hi
    rw [List.getElem?_append_left (List.getElem?_eq_some_iff.mp hs).1, hs] at q1
    cases q1
    rw [hid_snoc] at q5
    exact ⟨us, q4, q5⟩

/-! ### slots changed -/
def okSlot : Option SD → Bool
  | some (.pw _) => false | some _ => true | none => false
theorem okSlot_lt {ρ : List SD} {i : Nat} (h : okSlot ρ[i]? = true) : i < ρ.length := by
  cases e : ρ[i]? with
  | none => rw [e] at h; cases h
  | some r => exact (List.getElem?_eq_some_iff.mp e).1
section
variable {F : Fm} {S : List (Option Addr)} {σ : St} {H H' : Hp} {ρ : List SD} {i : Nat}
theorem hp_set_none {b : Addr} (h : hp F (S.set i none) b) : hp F S b := by
  rcases h with h | h
  · exact .inl h
  · rcases List.mem_or_eq_of_mem_set h with h | h
    · exact .inr h
    · cases h
theorem get_set {α : Type} {l : List α} {i j : Nat} {x : α} (hi : i < l.length) : (l.set i x)[j]? = if j = i then some x else l[j]? := by
  by_cases h : j = i
  · subst h; rw [if_pos rfl, List.getElem?_set_self hi]
  · rw [if_neg h, List.getElem?_set_ne (Ne.symm h)]
/-- a slot gets data -/
theorem En.setd (E : En F S σ H ρ) (ok : okSlot ρ[i]? = true) {d : PyData} {v : V} (r : Rp F.K (hid F S H) d v) : En F (S.set i none) (σ.set i (some v)) H (ρ.set i (.dt d)) := by
  have hi := okSlot_lt ok
  have hS : i < S.length := Nat.lt_of_lt_of_le hi E.lenS
  have hσ : i < σ.length := by rw [← E.len]; exact hi
  have e : Same (hid F S H) (hid F (S.set i none) H) := hide_anti fun b z => hp_set_none z
  refine ⟨by rw [List.length_set, List.length_set]; exact E.len, by rw [List.length_set, List.length_set]; exact E.lenS, E.bf, E.fr, fun j l a h1 h2 => ?_, fun a ht => ?_, fun j a h1 h2 => ?_, fun j r' hr => ?_⟩
  · rw [get_set hS] at h1 h2
    split at h1 <;> split at h2 <;> first | (cases h1; done) | (cases h2; done) | exact E.inj j l a h1 h2
  · obtain ⟨j, xs, h1, h2⟩ := E.tw a ht
    have hj : j ≠ i := fun z => by rw [z] at h1; rw [h1] at ok; cases ok
    exact ⟨j, xs, by rw [get_set hi, if_neg hj]; exact h1, by rw [get_set hS, if_neg hj]; exact h2⟩
  · rw [get_set hi] at h1
    rw [get_set hS] at h2
    split at h2
    · cases h2
    · rename_i hj
      rw [if_neg hj] at h1
      exact E.an j a h1 h2
  · rw [get_set hi] at hr
    rw [get_set hS, get_set hσ]
    by_cases hj : j = i
    · rw [if_pos hj] at hr ⊢
      rw [if_pos hj]
      cases hr
      exact ⟨rfl, v, rfl, r.mono e⟩
    · rw [if_neg hj] at hr ⊢
      rw [if_neg hj]
      exact (E.at_ j r' hr).rehide e fun a vs _ q => q
/-- a slot gets a new list of its own -/
theorem En.seto (ok : okSlot ρ[i]? = true) (hl : ρ.length ≤ S.length) {p : Addr} {xs : List PyData} {vs : List V} (E : En F (S ++ [some p]) σ H ρ) (h0 : F.H0 p = none) (hp' : H p = some (.lst vs)) (r : RpL F.K (hid F (S ++ [some p]) H) xs vs) (hn : ¬ some p ∈ S) :
    En F (S.set i (some p)) (σ.set i (some (.ref p))) H (ρ.set i (.ow xs)) := by
  have hi := okSlot_lt ok
  have hS : i < S.length := Nat.lt_of_lt_of_le hi hl
  have hσ : i < σ.length := by rw [← E.len]; exact hi
  have e : Same (hid F (S ++ [some p]) H) (hid F (S.set i (some p)) H) := hide_anti fun b z => by
    rcases z with z | z
    · exact .inl z
    · rcases List.mem_or_eq_of_mem_set z with z | z
      · exact hp_snoc.mpr (.inl (.inr z))
      · exact hp_snoc.mpr (.inr (Option.some.inj z))
  have at' : ∀ {j : Nat}, j < S.length → (S ++ [some p])[j]? = S[j]? := fun {j} hj => List.getElem?_append_left hj
  have up : ∀ {j : Nat} {a : Addr}, S[j]? = some (some a) → (S ++ [some p])[j]? = some (some a) := fun {j a} z => by rw [at' (List.getElem?_eq_some_iff.mp z).1]; exact z
  refine ⟨by rw [List.length_set, List.length_set]; exact E.len, by rw [List.length_set, List.length_set]; exact hl, E.bf, E.fr, fun j l a h1 h2 => ?_, fun a ht => ?_, fun j a h1 h2 => ?_, fun j r' hr => ?_⟩
  · rw [get_set hS] at h1 h2
    split at h1 <;> split at h2
    · rename_i q1 q2; rw [q1, q2]
    · rename_i q1 q2
      cases h1
      exact absurd (List.mem_of_getElem? h2) hn
    · rename_i q1 q2
      cases h2
      exact absurd (List.mem_of_getElem? h1) hn
    · exact E.inj j l a (up h1) (up h2)
  · obtain ⟨j, xs, h1, h2⟩ := E.tw a ht
    have hj : j ≠ i := fun z => by rw [z] at h1; rw [h1] at ok; cases ok
    have hjl : j < S.length := Nat.lt_of_lt_of_le (List.getElem?_eq_some_iff.mp h1).1 hl
    rw [at' hjl] at h2
    exact ⟨j, xs, by rw [get_set hi, if_neg hj]; exact h1, by rw [get_set hS, if_neg hj]; exact h2⟩
  · rw [get_set hi] at h1
    rw [get_set hS] at h2
    split at h1
    · cases h1
    · rename_i hj
      rw [if_neg hj] at h2
      exact E.an j a h1 (up h2)
  · rw [get_set hi] at hr
    rw [get_set hS, get_set hσ]
    by_cases hj : j = i
    · rw [if_pos hj] at hr ⊢
      rw [if_pos hj]
      cases hr
      exact ⟨p, vs, rfl, h0, rfl, hp', r.mono e⟩
    · rw [if_neg hj] at hr ⊢
      rw [if_neg hj]
      have hjl : j < S.length := Nat.lt_of_lt_of_le (List.getElem?_eq_some_iff.mp hr).1 hl
      have q := E.at_ j r' hr
      rw [at' hjl] at q
      exact q.rehide e fun a vs _ q => q
/-- the items of an own list -/
def ownOf : Option SD → Option (List PyData)
  | some (.ow xs) => some xs | some (.pw xs) => some xs | _ => none
def setOwn (ρ : List SD) (i : Nat) (xs : List PyData) : List SD := match ρ[i]? with
  | some (.pw _) => ρ.set i (.pw xs)
  | _ => ρ.set i (.ow xs)
theorem own_at (E : En F S σ H ρ) {xs : List PyData} (h : ownOf ρ[i]? = some xs) : ∃ a vs, S[i]? = some (some a) ∧ σ[i]? = some (some (.ref a)) ∧ H a = some (.lst vs) ∧ RpL F.K (hid F S H) xs vs := by
  cases e : ρ[i]? with
  | none => rw [e] at h; cases h
  | some r =>
    rw [e] at h
    have q := E.at_ i r e
    cases r with
    | un => cases h
    | dt d => cases h
    | ow ys => cases h; obtain ⟨a, vs, h1, h2, h3, h4, h5⟩ := q; exact ⟨a, vs, h1, h3, h4, h5⟩
    | pw ys => cases h; obtain ⟨a, vs, h1, h2, h3, h4, h5⟩ := q; exact ⟨a, vs, h1, h3, h4, h5⟩
theorem own_hide {a : Addr} (hs : S[i]? = some (some a)) {o : HO} : hid F S (upd H a o) = hid F S H := by
  funext b
  by_cases hb : hp F S b
  · have e1 : hid F S (upd H a o) b = none := by
      cases q : hid F S (upd H a o) b with
      | none => rfl
      | some x => exact absurd hb (hide_some.mp q).1
    have e2 : hid F S H b = none := by
      cases q : hid F S H b with
      | none => rfl
      | some x => exact absurd hb (hide_some.mp q).1
    rw [e1, e2]
  · have hne : b ≠ a := fun z => hb (.inr (by rw [z]; exact List.mem_of_getElem? hs))
    unfold hid hide
    rw [if_neg hb, if_neg hb, upd_ne hne]
/-- an own list is changed -/
theorem En.chg (E : En F S σ H ρ) {xs ys : List PyData} {a : Addr} {ws : List V} (h : ownOf ρ[i]? = some xs) (hs : S[i]? = some (some a)) (r : RpL F.K (hid F S H) ys ws) : En F S σ (upd H a (.lst ws)) (setOwn ρ i ys) ∧ Gr F S σ.length H (upd H a (.lst ws)) := by
  have hi : i < ρ.length := by
    cases e : ρ[i]? with
    | none => rw [e] at h; cases h
    | some r => exact (List.getElem?_eq_some_iff.mp e).1
  have eh : hid F S (upd H a (.lst ws)) = hid F S H := own_hide hs
  have other : ∀ {j : Nat} {b : Addr}, S[j]? = some (some b) → j ≠ i → b ≠ a := fun {j b} hj hne z => by
    subst z
    exact hne (E.inj j i b hj hs)
  obtain ⟨k, hk⟩ : ∃ k : SD, setOwn ρ i ys = ρ.set i k ∧ (∀ z, ρ[i]? = some (.ow z) → k = .ow ys) ∧ (∀ z, ρ[i]? = some (.pw z) → k = .pw ys) ∧ (ownOf (some k) = some ys) := by
    unfold setOwn
    split
    · rename_i z e
      exact ⟨.pw ys, rfl, fun w q => (by rw [e] at q; cases q), fun w q => rfl, rfl⟩
    · rename_i z
      exact ⟨.ow ys, rfl, fun w q => rfl, fun w q => absurd q (z w), rfl⟩
  obtain ⟨hk, k1, k2, k3⟩ := hk
  rw [hk]
  refine ⟨⟨by rw [List.length_set]; exact E.len, by rw [List.length_set]; exact E.lenS, E.bf, fun b o h1 h2 => ?_, E.inj, fun b ht => ?_, fun j b h1 h2 => ?_, fun j r' hr => ?_⟩, ⟨by rw [eh]; exact Same.refl _, fun j b h1 h2 => ?_⟩⟩
  · have hne : b ≠ a := fun z => by
      subst z
      cases e : ρ[i]? with
      | none => rw [e] at h; cases h
      | some r =>
        have q := E.at_ i r e
        rw [e] at h
        cases r with
        | un => cases h
        | dt d => cases h
        | ow zs => obtain ⟨c, vs, q1, q2, _⟩ := q; rw [hs] at q1; cases q1; rw [q2] at h1; cases h1
        | pw zs => obtain ⟨c, vs, q1, q2, _⟩ := q; rw [hs] at q1; cases q1; exact h2 q2
    rw [upd_ne hne]
    exact E.fr b o h1 h2
  · obtain ⟨j, zs, h1, h2⟩ := E.tw b ht
    by_cases hj : j = i
    · subst hj
      exact ⟨j, ys, by rw [get_set hi, if_pos rfl, k2 _ h1], h2⟩
    · exact ⟨j, zs, by rw [get_set hi, if_neg hj]; exact h1, h2⟩
  · have hj : j ≠ i := fun z => by subst z; rw [get_set hi, if_pos rfl] at h1; cases h1
    rw [get_set hi, if_neg hj] at h1
    obtain ⟨q1, vs, q2⟩ := E.an j b h1 h2
    exact ⟨q1, vs, by rw [upd_ne (other h2 hj)]; exact q2⟩
  · rw [get_set hi] at hr
    by_cases hj : j = i
    · subst hj
      rw [if_pos rfl] at hr
      cases hr
      cases e : ρ[j]? with
      | none => rw [e] at h; cases h
      | some r0 =>
        have q := E.at_ j r0 e
        rw [e] at h
        cases r0 with
        | un => cases h
        | dt d => cases h
        | ow zs =>
          rw [k1 _ e]
          obtain ⟨c, vs, q1, q2, q3, q4, q5⟩ := q
          rw [hs] at q1; cases q1
          exact ⟨a, ws, hs, q2, q3, upd_same, by rw [eh]; exact r⟩
        | pw zs =>
          rw [k2 _ e]
          obtain ⟨c, vs, q1, q2, q3, q4, q5⟩ := q
          rw [hs] at q1; cases q1
          exact ⟨a, ws, hs, q2, q3, upd_same, by rw [eh]; exact r⟩
    · rw [if_neg hj] at hr
      exact (E.at_ j r' hr).rehide (by rw [eh]; exact Same.refl _) fun b vs q1 q2 => by rw [upd_ne (other q1 hj)]; exact q2
  · rw [upd_ne (other h2 (fun z => by rw [← E.len] at h1; omega))]
end

section
variable {X : Cx} {e a b c o : Expr} {st : Stmt} {rest sts sts' : List Stmt} {t u : TS} {q q' : QS} {te tb : TE} {qe qb : QE} {pos p1 p2 : Pos} {i : Nat} {x : Str}
/-! ### blocks, small statements -/
def qNext : QS := fun D ρ => D.nx ρ
def qSeq (q q' : QS) : QS := fun D ρ => q { D with nx := q' D } ρ
theorem dss_nil : DSs X [] tNext qNext := ⟨pss_nil, fun F hF ρ D hq S σ H E D' k1 k2 k3 k4 => k1 S σ H ρ E (Same.refl _) hq⟩
theorem dss_one (h : DS X st t q) : DSs X [st] t q := ⟨pss_one h.ps, h.sim⟩
theorem dss_cons (h1 : DS X st t q) (h2 : DSs X rest u q') : DSs X (st :: rest) (tSeq t u) (qSeq q q') := by
  refine ⟨pss_cons h1.ps h2.ps, fun F hF ρ D hq S σ H E D' k1 k2 k3 k4 => ?_⟩
  refine h1.sim F hF ρ { D with nx := q' D } hq S σ H E { D' with nx := u D' } (fun S1 σ1 H1 ρ1 E1 e1 hq1 => ?_) k2 k3 k4
  exact h2.sim F hF ρ1 D hq1 S1 σ1 H1 E1 D' (fun S2 σ2 H2 ρ2 E2 e2 z => k1 S2 σ2 H2 ρ2 E2 (e1.trans e2) z) (fun S2 σ2 H2 ρ2 E2 e2 z => k2 S2 σ2 H2 ρ2 E2 (e1.trans e2) z) (fun S2 σ2 H2 ρ2 E2 e2 z => k3 S2 σ2 H2 ρ2 E2 (e1.trans e2) z) k4
def qRet (qe : QE) : QS := fun D ρ => qe ρ D.rt
theorem ds_ret (h : DQ X e te qe) : DS X (.Return (some e) pos) (tRet te) (qRet qe) :=
  ⟨ps_ret h.pe, fun F hF ρ D hq S σ H E D' k1 k2 k3 k4 => h.sim F hF ρ _ hq S σ H E _ fun r v H1 ρ1 E1 e1 r1 hq1 => k4 S σ H1 ρ1 r v E1 (r1.toT E) hq1⟩
def qRetN : QS := fun D ρ => D.rt (.dt .none) ρ
theorem ds_retN : DS X (.Return none pos) tRetN qRetN := ⟨ps_retN, fun F hF ρ D hq S σ H E D' k1 k2 k3 k4 => k4 S σ H ρ _ _ E (RpT.of (rp_non.mpr rfl)) hq⟩
/-- return of an own list -/
def qRetO (i : Nat) : QS := fun D ρ => ∃ xs, ρ[i]? = some (.ow xs) ∧ D.rt (.ow xs) ρ
theorem ds_retO (i : Nat) {x : Str} (h : PE X (.Name x p1) (tVar i)) : DS X (.Return (some (.Name x p1)) pos) (tRet (tVar i)) (qRetO i) := by
  refine ⟨ps_ret h, fun F hF ρ D ⟨xs, hi, hq⟩ S σ H E D' k1 k2 k3 k4 => ?_⟩
  obtain ⟨p, vs, h1, h2, h3, h4, h5⟩ := E.at_ i _ hi
  have hh : hide (fun b => hp F S b ∨ b = p) H = hid F S H := hide_congr fun b => ⟨fun z => z.elim id fun z => .inr (by rw [z]; exact List.mem_of_getElem? h1), .inl⟩
  refine ⟨.ref p, h3, k4 S σ H ρ (.ow xs) (.ref p) E ⟨p, vs, rfl, h2, h4, by rw [hh]; exact h5, fun j ws a hj hs => ?_⟩ hq⟩
  obtain ⟨b, us, q1, q2, q3, q4, q5⟩ := E.at_ j _ hj
  rw [hs] at q1; cases q1
  exact ⟨us, q4, by rw [hh]; exact q5⟩
def qIfS (qc : QT) (q q' : QS) : QS := fun D ρ => qc ρ fun b ρ1 => if b = true then q D ρ1 else q' D ρ1
theorem ds_if {tc : TT} {qc : QT} (hc : DT X c tc qc) (ha : DSs X sts t q) (hb : DSs X sts' u q') : DS X (.If c sts sts' pos) (tIfS tc t u) (qIfS qc q q') := by
  refine ⟨ps_if hc.pt ha.ps hb.ps, fun F hF ρ D hq S σ H E D' k1 k2 k3 k4 => ?_⟩
  refine hc.sim F hF ρ _ hq S σ H E _ fun b H1 ρ1 E1 e1 hq1 => ?_
  cases b with
  | true => exact iteT (ha.sim F hF ρ1 D (by simpa using hq1) S σ H1 E1 D' (fun S2 σ2 H2 ρ2 E2 e2 z => k1 S2 σ2 H2 ρ2 E2 (e1.same.trans e2) z) (fun S2 σ2 H2 ρ2 E2 e2 z => k2 S2 σ2 H2 ρ2 E2 (e1.same.trans e2) z) (fun S2 σ2 H2 ρ2 E2 e2 z => k3 S2 σ2 H2 ρ2 E2 (e1.same.trans e2) z) k4)
  | false => exact iteF (hb.sim F hF ρ1 D (by simpa using hq1) S σ H1 E1 D' (fun S2 σ2 H2 ρ2 E2 e2 z => k1 S2 σ2 H2 ρ2 E2 (e1.same.trans e2) z) (fun S2 σ2 H2 ρ2 E2 e2 z => k2 S2 σ2 H2 ρ2 E2 (e1.same.trans e2) z) (fun S2 σ2 H2 ρ2 E2 e2 z => k3 S2 σ2 H2 ρ2 E2 (e1.same.trans e2) z) k4)
theorem ds_pass : DS X (.Pass pos) tNext qNext := ⟨ps_pass, fun F hF ρ D hq S σ H E D' k1 k2 k3 k4 => k1 S σ H ρ E (Same.refl _) hq⟩
/-! ### x = e -/
def qAsg (qe : QE) (i : Nat) : QS := fun D ρ => qe ρ fun s ρ1 => okSlot ρ1[i]? = true ∧ D.nx (ρ1.set i (.dt s.dat))
def qAsgO (qe : QE) (i : Nat) : QS := fun D ρ => qe ρ fun s ρ1 => ∃ xs, s = .ow xs ∧ okSlot ρ1[i]? = true ∧ D.nx (ρ1.set i (.ow xs))
theorem sim_asg (h : ∀ F : Fm, F.K = X.K → ∀ ρ Q, qe ρ Q → Ev F te ρ Q) : ∀ F : Fm, F.K = X.K → ∀ ρ D, qAsg qe i D ρ → EvS F (tAsg te (gName i)) ρ D := by
  intro F hF ρ D hq S σ H E D' k1 k2 k3 k4
  refine h F hF ρ _ hq S σ H E _ fun r v H1 ρ1 E1 e1 r1 ⟨ok, hq1⟩ => ?_
  exact k1 _ _ H1 _ (E1.setd ok (r1.rp E)) (e1.same.trans (hide_anti fun b z => hp_set_none z)) hq1
theorem En.fresh_set {F : Fm} {S : List (Option Addr)} {σ : St} {ρ : List SD} {H H1 : Hp} {p : Addr} {i : Nat} (E : En F S σ H ρ) (hn : H p = none) (e : Same (hid F S H) (hid F S H1)) : Same (hid F S H) (hid F (S.set i (some p)) H1) := fun b x q => by
  obtain ⟨_, q2⟩ := hide_some.mp q
  obtain ⟨q3, q4⟩ := hide_some.mp (e b x q)
  refine hide_some.mpr ⟨fun z => ?_, q4⟩
  rcases z with z | z
  · exact q3 (.inl z)
  · rcases List.mem_or_eq_of_mem_set z with z | z
    · exact q3 (.inr z)
    · rw [Option.some.inj z, hn] at q2; cases q2
theorem sim_asgO (h : ∀ F : Fm, F.K = X.K → ∀ ρ Q, qe ρ Q → Ev F te ρ Q) : ∀ F : Fm, F.K = X.K → ∀ ρ D, qAsgO qe i D ρ → EvS F (tAsg te (gName i)) ρ D := by
  intro F hF ρ D hq S σ H E D' k1 k2 k3 k4
  refine h F hF ρ _ hq S σ H E _ fun r v H1 ρ1 E1 e1 r1 ⟨xs, hr, ok, hq1⟩ => ?_
  subst hr
  obtain ⟨p, vs, rfl, h1, h2, h3, h4⟩ := r1
  exact k1 _ _ H1 _ (En.seto ok E1.lenS h4 (E.dom h1) h2 h3 fun z => E.new h1 (.inr z)) (E.fresh_set h1 e1.same) hq1
theorem ds_asg (h : DQ X e te qe) (hp : PS X (.Assign [.Name x p1] e pos) (tAsg te (gName i))) : DS X (.Assign [.Name x p1] e pos) (tAsg te (gName i)) (qAsg qe i) := ⟨hp, sim_asg h.sim⟩
theorem ds_asgO (h : DQ X e te qe) (hp : PS X (.Assign [.Name x p1] e pos) (tAsg te (gName i))) : DS X (.Assign [.Name x p1] e pos) (tAsg te (gName i)) (qAsgO qe i) := ⟨hp, sim_asgO h.sim⟩
/-- x, y = a, b -/
def qPar (qa qb : QE) (i j : Nat) : QS := fun D ρ => qa ρ fun s ρ1 => qb ρ1 fun s' ρ2 => okSlot ρ2[i]? = true ∧ okSlot (ρ2.set i (.dt s.dat))[j]? = true ∧ D.nx ((ρ2.set i (.dt s.dat)).set j (.dt s'.dat))
theorem ds_par {ta tb : TE} {qa qb : QE} {j : Nat} (ha : DQ X a ta qa) (hb : DQ X b tb qb) (hp : PS X st (tPar i j (tCons ta (tCons tb tNil)))) : DS X st (tPar i j (tCons ta (tCons tb tNil))) (qPar qa qb i j) := by
  refine ⟨hp, fun F hF ρ D hq S σ H E D' k1 k2 k3 k4 => ?_⟩
  refine ha.sim F hF ρ _ hq S σ H E _ fun r v H1 ρ1 E1 e1 r1 hq1 => ?_
  refine hb.sim F hF ρ1 _ hq1 S σ H1 E1 _ fun r' v' H2 ρ2 E2 e2 r2 ⟨ok, ok', hq2⟩ => ?_
  have h1 : Rp F.K (hid F S H2) r.dat v := (r1.rp E).mono e2.same
  have h2 : Rp F.K (hid F (S.set i none) H2) r'.dat v' := (r2.rp E1).mono (hide_anti fun b z => hp_set_none z)
  exact ⟨v, v', rfl, k1 _ _ H2 _ ((E2.setd ok h1).setd ok' h2) ((e1.trans e2).same.trans (hide_anti fun b z => hp_set_none (hp_set_none z))) hq2⟩
/-- .. the second one an own list -/
def qParO (qa qb : QE) (i j : Nat) : QS := fun D ρ => qa ρ fun s ρ1 => qb ρ1 fun s' ρ2 => ∃ xs, s' = .ow xs ∧ okSlot ρ2[j]? = true ∧ okSlot (ρ2.set j (.ow xs))[i]? = true ∧ D.nx ((ρ2.set j (.ow xs)).set i (.dt s.dat))
theorem En.hid_set {F : Fm} {S : List (Option Addr)} {σ : St} {ρ : List SD} {H H1 : Hp} {p : Addr} {i : Nat} {d : PyData} {v : V} (E : En F S σ H ρ) (hn : H p = none) (e : Same (hid F S H) (hid F S H1)) (r : Rp F.K (hid F S H) d v) : Rp F.K (hid F (S.set i (some p)) H1) d v := r.mono (E.fresh_set hn e)
theorem ds_parO {ta tb : TE} {qa qb : QE} {j : Nat} (hij : i ≠ j) (ha : DQ X a ta qa) (hb : DQ X b tb qb) (hp : PS X st (tPar i j (tCons ta (tCons tb tNil)))) : DS X st (tPar i j (tCons ta (tCons tb tNil))) (qParO qa qb i j) := by
  refine ⟨hp, fun F hF ρ D hq S σ H E D' k1 k2 k3 k4 => ?_⟩
  refine ha.sim F hF ρ _ hq S σ H E _ fun r v H1 ρ1 E1 e1 r1 hq1 => ?_
  refine hb.sim F hF ρ1 _ hq1 S σ H1 E1 _ fun r' v' H2 ρ2 E2 e2 r2 ⟨xs, hr, ok, ok', hq2⟩ => ?_
  subst hr
  obtain ⟨p, vs, rfl, h1, h2, h3, h4⟩ := r2
  have Z := En.seto ok E2.lenS h4 (E1.dom h1) h2 h3 fun z => E1.new h1 (.inr z)
  have hv : Rp F.K (hid F (S.set j (some p)) H2) r.dat v := E1.hid_set h1 e2.same (r1.rp E)
  have W := Z.setd ok' hv
  have es : (σ.set j (some (V.ref p))).set i (some v) = (σ.set i (some v)).set j (some (V.ref p)) := List.set_comm _ _ hij.symm
  rw [es] at W
  exact ⟨v, .ref p, rfl, k1 _ _ H2 _ W ((e1.same.trans (E1.fresh_set h1 e2.same)).trans (hide_anti fun b z => hp_set_none z)) hq2⟩
/-- x, y, z = a, b, c -/
def qPar3 (qa qb qc : QE) (i j l : Nat) : QS := fun D ρ => qa ρ fun s ρ1 => qb ρ1 fun s' ρ2 => qc ρ2 fun s2 ρ3 => okSlot ρ3[i]? = true ∧ okSlot (ρ3.set i (.dt s.dat))[j]? = true ∧ okSlot ((ρ3.set i (.dt s.dat)).set j (.dt s'.dat))[l]? = true ∧ D.nx (((ρ3.set i (.dt s.dat)).set j (.dt s'.dat)).set l (.dt s2.dat))
theorem ds_par3 {ta tb tc : TE} {qa qb qc : QE} {j l : Nat} (ha : DQ X a ta qa) (hb : DQ X b tb qb) (hc : DQ X c tc qc) (hp : PS X st (tPar3 i j l (tCons ta (tCons tb (tCons tc tNil))))) : DS X st (tPar3 i j l (tCons ta (tCons tb (tCons tc tNil)))) (qPar3 qa qb qc i j l) := by
  refine ⟨hp, fun F hF ρ D hq S σ H E D' k1 k2 k3 k4 => ?_⟩
  refine ha.sim F hF ρ _ hq S σ H E _ fun r v H1 ρ1 E1 e1 r1 hq1 => ?_
  refine hb.sim F hF ρ1 _ hq1 S σ H1 E1 _ fun r' v' H2 ρ2 E2 e2 r2 hq2 => ?_
  refine hc.sim F hF ρ2 _ hq2 S σ H2 E2 _ fun r3 v3 H3 ρ3 E3 e3 q3 ⟨ok, ok', ok2, hq3⟩ => ?_
  have h1 : Rp F.K (hid F S H3) r.dat v := ((r1.rp E).mono e2.same).mono e3.same
  have h2 : Rp F.K (hid F (S.set i none) H3) r'.dat v' := ((r2.rp E1).mono e3.same).mono (hide_anti fun b z => hp_set_none z)
  have h3 : Rp F.K (hid F ((S.set i none).set j none) H3) r3.dat v3 := (q3.rp E2).mono (hide_anti fun b z => hp_set_none (hp_set_none z))
  exact ⟨v, v', v3, rfl, k1 _ _ H3 _ (((E3.setd ok h1).setd ok' h2).setd ok2 h3) ((e1.trans (e2.trans e3)).same.trans (hide_anti fun b z => hp_set_none (hp_set_none (hp_set_none z)))) hq3⟩
/-- .. the last one an own list -/
def qPar3O (qa qb qc : QE) (i j l : Nat) : QS := fun D ρ => qa ρ fun s ρ1 => qb ρ1 fun s' ρ2 => qc ρ2 fun s2 ρ3 => ∃ xs, s2 = .ow xs ∧ okSlot ρ3[l]? = true ∧ okSlot (ρ3.set l (.ow xs))[i]? = true ∧ okSlot ((ρ3.set l (.ow xs)).set i (.dt s.dat))[j]? = true ∧ D.nx (((ρ3.set l (.ow xs)).set i (.dt s.dat)).set j (.dt s'.dat))
theorem ds_par3O {ta tb tc : TE} {qa qb qc : QE} {j l : Nat} (hil : i ≠ l) (hjl : j ≠ l) (ha : DQ X a ta qa) (hb : DQ X b tb qb) (hc : DQ X c tc qc) (hp : PS X st (tPar3 i j l (tCons ta (tCons tb (tCons tc tNil))))) : DS X st (tPar3 i j l (tCons ta (tCons tb (tCons tc tNil)))) (qPar3O qa qb qc i j l) := by
  refine ⟨hp, fun F hF ρ D hq S σ H E D' k1 k2 k3 k4 => ?_⟩
  refine ha.sim F hF ρ _ hq S σ H E _ fun r v H1 ρ1 E1 e1 r1 hq1 => ?_
  refine hb.sim F hF ρ1 _ hq1 S σ H1 E1 _ fun r' v' H2 ρ2 E2 e2 r2 hq2 => ?_
  refine hc.sim F hF ρ2 _ hq2 S σ H2 E2 _ fun r3 v3 H3 ρ3 E3 e3 q3 ⟨xs, hr, ok, ok', ok2, hq3⟩ => ?_
  subst hr
  obtain ⟨p, vs, rfl, g1, g2, g3, g4⟩ := q3
  have Z := En.seto ok E3.lenS g4 (E2.dom g1) g2 g3 fun z => E2.new g1 (.inr z)
  have h1 : Rp F.K (hid F (S.set l (some p)) H3) r.dat v := E2.hid_set g1 e3.same ((r1.rp E).mono e2.same)
  have h2 : Rp F.K (hid F ((S.set l (some p)).set i none) H3) r'.dat v' := (E2.hid_set g1 e3.same (r2.rp E1)).mono (hide_anti fun b z => hp_set_none z)
  have W := (Z.setd ok' h1).setd ok2 h2
  have es : ((σ.set l (some (V.ref p))).set i (some v)).set j (some v') = ((σ.set i (some v)).set j (some v')).set l (some (V.ref p)) := by
    rw [List.set_comm _ _ hil.symm, List.set_comm _ _ hjl.symm]
  rw [es] at W
  exact ⟨v, v', .ref p, rfl, k1 _ _ H3 _ W (((e1.trans e2).same.trans (E2.fresh_set g1 e3.same)).trans (hide_anti fun b z => hp_set_none (hp_set_none z))) hq3⟩
/-! ### own lists -/
/-- an own list becomes data -/
def qFrz (i : Nat) (q : QS) : QS := fun D ρ => ∃ xs, ρ[i]? = some (.ow xs) ∧ q D (ρ.set i (.dt (.list xs)))
theorem En.frz {F : Fm} {S : List (Option Addr)} {σ : St} {ρ : List SD} {H : Hp} (E : En F S σ H ρ) {xs : List PyData} (hi : ρ[i]? = some (.ow xs)) : En F (S.set i none) σ H (ρ.set i (.dt (.list xs))) ∧ Same (hid F S H) (hid F (S.set i none) H) := by
  have hl := (List.getElem?_eq_some_iff.mp hi).1
  have hS : i < S.length := Nat.lt_of_lt_of_le hl E.lenS
  have e : Same (hid F S H) (hid F (S.set i none) H) := hide_anti fun b z => hp_set_none z
  obtain ⟨a, vs, h1, h2, h3, h4, h5⟩ := E.at_ i _ hi
  have na : ¬ hp F (S.set i none) a := fun z => by
    rcases z with z | z
    · exact absurd h2 (E.bf a z).1
    · obtain ⟨j, hj⟩ := List.mem_iff_getElem?.mp z
      rw [get_set hS] at hj
      split at hj
      · cases hj
      · rename_i hne
        exact hne (E.inj j i a hj h1)
  refine ⟨⟨by rw [List.length_set]; exact E.len, by rw [List.length_set, List.length_set]; exact E.lenS, E.bf, E.fr, fun j l b g1 g2 => ?_, fun b ht => ?_, fun j b g1 g2 => ?_, fun j r' hr => ?_⟩, e⟩
  · rw [get_set hS] at g1 g2
    split at g1 <;> split at g2 <;> first | (cases g1; done) | (cases g2; done) | exact E.inj j l b g1 g2
  · obtain ⟨j, ys, g1, g2⟩ := E.tw b ht
    have hj : j ≠ i := fun z => by rw [z, hi] at g1; cases g1
    exact ⟨j, ys, by rw [get_set hl, if_neg hj]; exact g1, by rw [get_set hS, if_neg hj]; exact g2⟩
  · rw [get_set hl] at g1
    rw [get_set hS] at g2
    split at g2
    · cases g2
    · rename_i hj
      rw [if_neg hj] at g1
      exact E.an j b g1 g2
  · rw [get_set hl] at hr
    rw [get_set hS]
    by_cases hj : j = i
    · rw [if_pos hj] at hr ⊢
      cases hr
      exact ⟨rfl, .ref a, by rw [hj]; exact h3, rp_lst.mpr ⟨a, vs, rfl, .inl (.inl (hide_some.mpr ⟨na, h4⟩)), h5.mono e⟩⟩
    · rw [if_neg hj] at hr ⊢
      exact (E.at_ j r' hr).rehide e fun a vs _ q => q
theorem ds_frz (i : Nat) (h : DS X st t q) : DS X st t (qFrz i q) := by
  refine ⟨h.ps, fun F hF ρ D ⟨xs, hi, hq⟩ S σ H E D' k1 k2 k3 k4 => ?_⟩
  obtain ⟨E1, e1⟩ := E.frz hi
  exact h.sim F hF _ D hq _ σ H E1 D' (fun S2 σ2 H2 ρ2 E2 e2 z => k1 S2 σ2 H2 ρ2 E2 (e1.trans e2) z) (fun S2 σ2 H2 ρ2 E2 e2 z => k2 S2 σ2 H2 ρ2 E2 (e1.trans e2) z) (fun S2 σ2 H2 ρ2 E2 e2 z => k3 S2 σ2 H2 ρ2 E2 (e1.trans e2) z) k4
/-- x.append(e) -/
def qApp (i : Nat) (qe : QE) : QS := fun D ρ => qe ρ fun s ρ1 => ∃ xs, ownOf ρ1[i]? = some xs ∧ xs.length < sizeLine ∧ D.nx (setOwn ρ1 i (xs ++ [s.dat]))
theorem ds_app (i : Nat) {x : Str} {apos cpos : Pos} (h : DQ X e te qe) (hi : ∀ F : Fm, F.K = X.K → ∀ ρ D, qApp i qe D ρ → (ownOf ρ[i]?).isSome = true) (hp : PS X (.Expr (.Call (.Attribute (.Name x p1) "append" apos) [e] [] cpos) pos) (tDrop (tBM X.K "list" rAppend (tVar i) (tCons te tNil)))) :
    DS X (.Expr (.Call (.Attribute (.Name x p1) "append" apos) [e] [] cpos) pos) (tDrop (tBM X.K "list" rAppend (tVar i) (tCons te tNil))) (qApp i qe) := by
  refine ⟨hp, fun F hF ρ D hq S σ H E D' k1 k2 k3 k4 => ?_⟩
  obtain ⟨xs0, h0⟩ := Option.isSome_iff_exists.mp (hi F hF ρ D hq)
  obtain ⟨a, vs0, s0, s1, s2, s3⟩ := own_at E h0
  refine ⟨.ref a, s1, .inl ⟨rfl, _, .inl (.inl s2)⟩, ?_⟩
  refine h.sim F hF ρ _ hq S σ H E _ fun r v H1 ρ1 E1 e1 r1 ⟨xs, g1, g2, hq1⟩ => ?_
  obtain ⟨b, vs, t0, t1, t2, t3⟩ := own_at E1 g1
  rw [s0] at t0; cases t0
  refine ⟨a, vs, v, rfl, rfl, t2, by rw [t3.len]; exact g2, ?_⟩
  obtain ⟨E2, G2⟩ := E1.chg g1 s0 (t3.append (RpL.one (r1.rp E)))
  exact k1 S σ _ _ E2 ((e1.trans G2).same) hq1
/-- x[k] = e -/
def qSto (i : Nat) (qk qe : QE) : QS := fun D ρ => qe ρ fun s ρ1 => qk ρ1 fun s2 ρ2 => ∃ xs k j, ownOf ρ2[i]? = some xs ∧ s2.dat = .int k ∧ ixN xs.length k = some j ∧ D.nx (setOwn ρ2 i (xs.set j s.dat))
theorem ds_sto (i : Nat) {tk : TE} {qk : QE} (h : DQ X e te qe) (hk : DQ X b tk qk) (hp : PS X st (tAsg te (gSub (tVar i) tk rSetL))) (hi2 : ∀ ρ1 (s : SD) (D : DEnds), (qk ρ1 fun s2 ρ2 => ∃ xs k j, ownOf ρ2[i]? = some xs ∧ s2.dat = .int k ∧ ixN xs.length k = some j ∧ D.nx (setOwn ρ2 i (xs.set j s.dat))) → (ownOf ρ1[i]?).isSome = true) : DS X st (tAsg te (gSub (tVar i) tk rSetL)) (qSto i qk qe) := by
  refine ⟨hp, fun F hF ρ D hq S σ H E D' k1 k2 k3 k4 => ?_⟩
  refine h.sim F hF ρ _ hq S σ H E _ fun r v H1 ρ1 E1 e1 r1 hq1 => ?_
  obtain ⟨xs0, h0⟩ := Option.isSome_iff_exists.mp (hi2 ρ1 r D hq1)
  obtain ⟨a, vs0, s0, s1, s2, s3⟩ := own_at E1 h0
  refine ⟨.ref a, s1, ?_⟩
  refine hk.sim F hF ρ1 _ hq1 S σ H1 E1 _ fun r' v' H2 ρ2 E2 e2 r2 ⟨xs, k, j, g1, g2, g3, hq2⟩ => ?_
  obtain ⟨b, vs, t0, t1, t2, t3⟩ := own_at E2 g1
  rw [s0] at t0; cases t0
  have rv := r2.rp E1
  rw [g2] at rv
  refine ⟨a, vs, k, j, rfl, rp_int.mp rv, t2, by rw [t3.len]; exact g3, ?_⟩
  obtain ⟨E3, G3⟩ := E2.chg g1 s0 (t3.set j ((r1.rp E).mono e2.same))
  exact k1 S σ _ _ E3 ((e1.trans (e2.trans G3)).same) hq2
/-- x[k], x an own list -/
def qIxO (i : Nat) (qk : QE) : QE := fun ρ Q => ∃ ys, ownOf ρ[i]? = some ys ∧ qk ρ fun s ρ1 => ∃ xs k z, ownOf ρ1[i]? = some xs ∧ s.dat = .int k ∧ atI xs k = some z ∧ Q (.dt z) ρ1
theorem dq_ixO (i : Nat) {tk : TE} {qk : QE} (h : PE X (.Name x p1) (tVar i)) (hk : DQ X b tk qk) (hs : PlainIx b := by intro _ _; rfl) : DQ X (.Subscript (.Name x p1) b pos) (tOp (rIx X.K) (tVar i) tk) (qIxO i qk) := by
  refine ⟨pe_ix ix_seq h hk.pe hs, fun F hF ρ Q ⟨ys, hy, hq⟩ S σ H E Q' k => ?_⟩
  obtain ⟨a, vs0, s0, s1, s2, s3⟩ := own_at E hy
  refine ⟨.ref a, s1, ?_⟩
  refine hk.sim F hF ρ _ hq S σ H E _ fun r v H1 ρ1 E1 e1 r1 ⟨xs, kk, z, g1, g2, g3, hq1⟩ => ?_
  obtain ⟨b, vs, t0, t1, t2, t3⟩ := own_at E1 g1
  rw [s0] at t0; cases t0
  have rv := r1.rp E
  rw [g2] at rv
  obtain ⟨w, hw, rw'⟩ := t3.atI g3
  exact .inl ⟨a, vs, kk, w, rfl, rp_int.mp rv, .inl (.inl t2), hw, k (.dt z) w H1 ρ1 E1 e1 (RpS.of rw') hq1⟩
/-! ### lending: all own lists read as data, what comes is flat -/
def SD.toDt : SD → SD
  | .ow xs => .dt (.list xs) | .pw xs => .dt (.list xs) | s => s
theorem En.lend {F : Fm} {S : List (Option Addr)} {σ : St} {ρ : List SD} {H : Hp} (E : En F S σ H ρ) : En { K := F.K, B := F.B, T := none, H0 := H } (List.replicate σ.length none) σ H (ρ.map SD.toDt) := by
  have hn : ∀ {b : Addr}, hp { K := F.K, B := F.B, T := none, H0 := H } (List.replicate σ.length none) b → F.B b := fun {b} z => by
    rcases z with z | z
    · exact z
    · have := (List.mem_replicate.mp z).2
      cases this
  have e : Same (hid F S H) (hid { K := F.K, B := F.B, T := none, H0 := H } (List.replicate σ.length none) H) := hide_anti fun b z => .inl (hn z)
  refine ⟨by rw [List.length_map]; exact E.len, by rw [List.length_map, List.length_replicate, E.len]; exact Nat.le_refl _, fun b hb => ⟨E.hid_there (.inl hb), fun z => (nomatch z)⟩, fun b o h1 _ => h1, fun i j a h1 _ => ?_, fun a ht => (nomatch ht), fun i a _ h2 => ?_, fun i r hr => ?_⟩
  · have := List.mem_of_getElem? h1
    have := (List.mem_replicate.mp this).2
    cases this
  · have := List.mem_of_getElem? h2
    have := (List.mem_replicate.mp this).2
    cases this
  · rw [List.getElem?_map] at hr
    cases q : ρ[i]? with
    | none => rw [q] at hr; cases hr
    | some s =>
      rw [q] at hr
      have hi : i < σ.length := by rw [← E.len]; exact (List.getElem?_eq_some_iff.mp q).1
      have hs : (List.replicate σ.length (none : Option Addr))[i]? = some none := by simp [hi]
      rw [hs]
      have z := E.at_ i s q
      cases s with
      | un => cases hr; exact rfl
      | dt d => cases hr; obtain ⟨_, v, h2, h3⟩ := z; exact ⟨rfl, v, h2, h3.mono e⟩
      | ow xs =>
        cases hr
        obtain ⟨a, vs, h1, h2, h3, h4, h5⟩ := z
        refine ⟨rfl, .ref a, h3, rp_lst.mpr ⟨a, vs, rfl, .inl (.inl (hide_some.mpr ⟨fun w => ?_, h4⟩)), h5.mono e⟩⟩
        exact absurd h2 (E.bf a (hn w)).1
      | pw xs =>
        cases hr
        obtain ⟨a, vs, h1, h2, h3, h4, h5⟩ := z
        refine ⟨rfl, .ref a, h3, rp_lst.mpr ⟨a, vs, rfl, .inl (.inl (hide_some.mpr ⟨fun w => ?_, h4⟩)), h5.mono e⟩⟩
        exact (E.bf a (hn w)).2 h2
def qLend (q : QE) : QE := fun ρ Q => q (ρ.map SD.toDt) fun s _ => flatD s.dat = true ∧ Q (.dt s.dat) ρ
def qLendT (q : QT) : QT := fun ρ Q => q (ρ.map SD.toDt) fun b _ => Q b ρ
theorem lend_same {F : Fm} {H H' : Hp} {S : List (Option Addr)} {σ : St} {ρ : List SD} (E : En { K := F.K, B := F.B, T := none, H0 := H } S σ H' ρ) : Same H H' := fun b o h => E.fr b o h (fun z => by cases z)
theorem dq_lend (h : DQ X e te qe) : DQ X e te (qLend qe) := by
  refine ⟨h.pe, fun F hF ρ Q hq S σ H E Q' k => ?_⟩
  refine h.sim { K := F.K, B := F.B, T := none, H0 := H } hF (ρ.map SD.toDt) _ hq _ σ H E.lend _ fun r v H1 ρ1 E1 e1 r1 ⟨hf, hq1⟩ => ?_
  have es := lend_same E1
  exact k (.dt r.dat) v H1 ρ (E.ext es) (Gr.ext E es) (RpS.of (Rp.flat (K := F.K) hf (RpS.rp (F := { K := F.K, B := F.B, T := none, H0 := H }) E.lend r1))) hq1
theorem dt_lend {tt : TT} {qt : QT} (h : DT X e tt qt) : DT X e tt (qLendT qt) := by
  refine ⟨h.pt, fun F hF ρ Q hq S σ H E Q' k => ?_⟩
  refine h.sim { K := F.K, B := F.B, T := none, H0 := H } hF (ρ.map SD.toDt) _ hq _ σ H E.lend _ fun r H1 ρ1 E1 e1 hq1 => ?_
  have es := lend_same E1
  exact k r H1 ρ (E.ext es) (Gr.ext E es) hq1
end
end DL
set_option Elab.async false
set_option linter.all false
set_option maxRecDepth 100000
set_option autoImplicit false
/-! DL4: iterators, targets, for, while, list comprehensions at the data level. -/
namespace DL
open PySem PySem.Spec PyProof.Rows L2

abbrev QI := List SD → (List PyData → List SD → Prop) → Prop
/-- the iterator gives the data xs, as long as what is told stands -/
def JOk (F : Fm) (S : List (Option Addr)) (Hs : Hp) (J : It) (xs : List PyData) : Prop :=
  ∀ S' σ' H ρ', En F S' σ' H ρ' → Same (hid F S Hs) (hid F S' H) → ∀ i : Nat,
    (∀ d, xs[i]? = some d → J.go i H ∧ ∀ x H', J.yld i H x H' → Same H H' ∧ Rp F.K (hid F S' H') d x) ∧ (xs.length ≤ i → J.stop i H)
structure DI (X : Cx) (tg iter : Expr) (wi : TI) (qi : QI) : Prop where
  pi : PI X tg iter wi
  sim : ∀ F : Fm, F.K = X.K → ∀ ρ R, qi ρ R → ∀ S σ H, En F S σ H ρ → ∀ R' : It → Hp → Prop,
    (∀ J xs H' ρ', En F S σ H' ρ' → Gr F S σ.length H H' → JOk F S H' J xs → R xs ρ' → R' J H') → wi σ H R'
section
variable {X : Cx} {tg e e1 e2 : Expr} {te : TE} {t : TA} {qe : QE} {q : QA} {p pos : Pos}
def qIL (qe : QE) : QI := fun ρ R => qe ρ fun s ρ1 => ∃ ds, s.dat = .list ds ∧ R ds ρ1
theorem jok_list {F : Fm} {S : List (Option Addr)} {H : Hp} {a : Addr} {vs : List V} {ds : List PyData} (ha : SqL F.K (hid F S H) a vs) (ra : RpL F.K (hid F S H) ds vs) : JOk F S H (Itl F.K a) ds := by
  intro S' σ' H2 ρ' E e i
  have ha2 : SqL F.K H2 a vs := sql_mono hide_le (sql_mono e ha)
  refine ⟨fun d hd => ?_, fun hl => ⟨vs, ha2, by rw [ra.len]; exact hl⟩⟩
  obtain ⟨v, hv, rv⟩ := ra.get hd
  refine ⟨⟨vs, v, ha2, hv⟩, fun x H' ⟨h1, h2⟩ => ?_⟩
  subst h1
  have := h2 vs ha2
  rw [hv] at this
  cases this
  exact ⟨Same.refl _, rv.mono e⟩
theorem di_list (h : DQ X e te qe) : DI X tg e (iList X.K te) (qIL qe) := by
  refine ⟨pi_list h.pe, fun F hF ρ R hq S σ H E R' k => ?_⟩
  refine h.sim F hF ρ _ hq S σ H E _ fun s v H1 ρ1 E1 e1 r1 ⟨ds, hd, hq1⟩ => ?_
  have rv := r1.rp E
  rw [hd] at rv
  obtain ⟨a, vs, rfl, ha, ra⟩ := rp_lst.mp rv
  refine ⟨a, rfl, ⟨vs, hF ▸ sql_mono hide_le ha⟩, ?_⟩
  have J := jok_list ha ra
  rw [hF] at J
  exact k _ ds H1 ρ1 E1 e1 J hq1
def rngD (lo : Int) (n : Nat) : List PyData := (List.range n).map fun i => .int (lo + (i : Nat))
theorem jok_range {F : Fm} {S : List (Option Addr)} {H : Hp} {lo : Int} {n : Nat} : JOk F S H (Itr lo n) (rngD lo n) := by
  intro S' σ' H2 ρ' E e i
  refine ⟨fun d hd => ?_, fun hl => (by show n ≤ i; simpa [rngD] using hl)⟩
  have hi : i < n := by
    have := (List.getElem?_eq_some_iff.mp hd).1
    simpa [rngD] using this
  refine ⟨hi, fun x H' ⟨h1, h2⟩ => ?_⟩
  subst h1
  have : d = .int (lo + (i : Nat)) := by
    simp [rngD, hi] at hd
    exact hd.symm
  subst this
  exact ⟨Same.refl _, rp_int.mpr h2⟩
def qR1 (q : QA) : QI := fun ρ R => q ρ fun ds ρ1 => ∃ j : Int, ds = [.int j] ∧ (-(2 ^ 62) ≤ j ∧ j < 2 ^ 62) ∧ R (rngD 0 j.toNat) ρ1
theorem di_range1 (hg : Gl X "range") (hm : X.mg "range" = none) (ha : DA X [e] t q) (hs : starEach [e] X.env = [(false, eval e X.env)] := by rfl) : DI X tg (.Call (.Name "range" p) [e] [] pos) (iRng1 t) (qR1 q) := by
  refine ⟨pi_range1 hg hm ha.pa hs, fun F hF ρ R hq S σ H E R' k => ?_⟩
  refine ha.sim F hF ρ _ hq S σ H E _ fun ds vs H1 ρ1 E1 e1 r1 ⟨j, hj, ⟨b1, b2⟩, hq1⟩ => ?_
  subst hj
  obtain ⟨x, rfl, h2⟩ := r1.one_inv
  exact ⟨j, by rw [rp_int.mp h2], b1, b2, k _ _ H1 ρ1 E1 e1 jok_range hq1⟩
def qR2 (q : QA) : QI := fun ρ R => q ρ fun ds ρ1 => ∃ i j : Int, ds = [.int i, .int j] ∧ (-(2 ^ 62) ≤ i ∧ i < 2 ^ 62 ∧ -(2 ^ 62) ≤ j ∧ j < 2 ^ 62) ∧ R (rngD i (j - i).toNat) ρ1
theorem di_range2 (hg : Gl X "range") (hm : X.mg "range" = none) (ha : DA X [e1, e2] t q) (hs : starEach [e1, e2] X.env = [(false, eval e1 X.env), (false, eval e2 X.env)] := by rfl) (hs2 : starEach [e2] X.env = [(false, eval e2 X.env)] := by rfl) : DI X tg (.Call (.Name "range" p) [e1, e2] [] pos) (iRng2 t) (qR2 q) := by
  refine ⟨pi_range2 hg hm ha.pa hs hs2, fun F hF ρ R hq S σ H E R' k => ?_⟩
  refine ha.sim F hF ρ _ hq S σ H E _ fun ds vs H1 ρ1 E1 e1 r1 ⟨i, j, hj, b, hq1⟩ => ?_
  subst hj
  obtain ⟨x, y, rfl, h2, h3⟩ := r1.two_inv
  exact ⟨i, j, by rw [rp_int.mp h2, rp_int.mp h3], b, k _ _ H1 ρ1 E1 e1 jok_range hq1⟩
def sgn (x : Str) : List PyData := x.cps.toList.map fun c => .str ⟨#[c]⟩
def qIS (qe : QE) : QI := fun ρ R => qe ρ fun s ρ1 => ∃ x, s.dat = .str x ∧ R (sgn x) ρ1
theorem di_str (h : DQ X e te qe) : DI X tg e (iStr te) (qIS qe) := by
  refine ⟨pi_str h.pe, fun F hF ρ R hq S σ H E R' k => ?_⟩
  refine h.sim F hF ρ _ hq S σ H E _ fun s v H1 ρ1 E1 e1 r1 ⟨x, hx, hq1⟩ => ?_
  have rv := r1.rp E
  rw [hx] at rv
  refine ⟨x, rp_str.mp rv, k _ _ H1 ρ1 E1 e1 ?_ hq1⟩
  intro S' σ' H2 ρ' E e i
  have hlen : x.cps.toList.length = x.cps.size := by simp
  refine ⟨fun d hd => ?_, fun hl => ?_⟩
  · have hi : i < x.cps.toList.length := by
      have := (List.getElem?_eq_some_iff.mp hd).1
      simpa [sgn] using this
    have hd' : d = .str ⟨#[x.cps.toList[i]]⟩ := by
      have := List.getElem?_eq_some_iff.mp hd
      obtain ⟨_, q⟩ := this
      simp [sgn] at q
      rw [← q]
      simp
    refine ⟨(by show i < x.cps.size; rw [← hlen]; exact hi), fun v' H' ⟨h1, c, h2, h3⟩ => ?_⟩
    subst h1
    have hc : c = x.cps.toList[i] := by
      have h2' : x.cps.toList[i]? = some c := by simpa using h2
      rw [List.getElem?_eq_getElem hi] at h2'
      exact (Option.some.inj h2').symm
    rw [hd', ← hc, h3]
    exact ⟨Same.refl _, rp_str.mpr rfl⟩
  · show x.cps.size ≤ i
    rw [← hlen]
    simpa [sgn] using hl
def enumD (ds : List PyData) : List PyData := ds.zipIdx.map fun p => .tuple [.int (p.2 : Nat), p.1]
theorem enumD_get {ds : List PyData} {i : Nat} : (enumD ds)[i]? = ds[i]?.map fun d => .tuple [.int (i : Nat), d] := by
  unfold enumD
  rw [List.getElem?_map, List.getElem?_zipIdx]
  cases ds[i]? <;> simp
def qIE (q : QA) : QI := fun ρ R => q ρ fun ds ρ1 => ∃ xs, ds = [.list xs] ∧ R (enumD xs) ρ1
theorem di_enum {elts : List Expr} {kk : Nat} {tpos : Pos} (hg : Gl X "enumerate") (hm : X.mg "enumerate" = none) (ha : DA X [e] t q) (hs : starEach [e] X.env = [(false, eval e X.env)] := by rfl) : DI X (.Tuple elts kk tpos) (.Call (.Name "enumerate" p) [e] [] pos) (iEnum X.K t) (qIE q) := by
  refine ⟨pi_enum hg hm ha.pa hs, fun F hF ρ R hq S σ H E R' k => ?_⟩
  refine ha.sim F hF ρ _ hq S σ H E _ fun ds vs H1 ρ1 E1 e1 r1 ⟨xs, hx, hq1⟩ => ?_
  subst hx
  obtain ⟨x, rfl, h2⟩ := r1.one_inv
  obtain ⟨a, ws, rfl, ha, ra⟩ := rp_lst.mp h2
  refine ⟨a, ws, rfl, hF ▸ sql_mono hide_le ha, k _ _ H1 ρ1 E1 e1 ?_ hq1⟩
  intro S' σ' H2 ρ' E2 e2 i
  have ha2 : SqL F.K H2 a ws := sql_mono hide_le (sql_mono e2 ha)
  rw [hF] at ha2
  refine ⟨fun d hd => ?_, fun hl => ⟨ws, ha2, by rw [ra.len]; simpa [enumD] using hl⟩⟩
  rw [enumD_get] at hd
  obtain ⟨z, hz, rfl⟩ := Option.map_eq_some_iff.mp hd
  obtain ⟨v, hv, rv⟩ := ra.get hz
  refine ⟨⟨ws, v, ha2, hv⟩, fun y H' ⟨T, w, h3, h4, h5, h6⟩ => ?_⟩
  have := h6 ws ha2
  rw [hv] at this
  cases this
  subst h5 h3
  refine ⟨same_new h4, rp_tup.mpr ⟨T, _, rfl, .inl (.inl (hide_some.mpr ⟨E2.new h4, upd_same⟩)), RpL.cons (rp_int.mpr rfl) (RpL.one ((rv.mono e2).mono (hide_same (same_new h4))))⟩⟩
end

/-! ### targets -/
theorem wipe_set {σ : St} {i : Nat} {x : Option V} : ∀ {vs : List Nat}, i ∈ vs → wipe (σ.set i x) vs = wipe σ vs
  | [], h => by cases h
  | v :: vs, h => by
    unfold wipe
    by_cases hv : i ∈ vs
    · rw [wipe_set hv]
    · have e : i = v := by
        rcases List.mem_cons.mp h with z | z
        · exact z
        · exact absurd z hv
      subst e
      have : ∀ {ws : List Nat}, i ∉ ws → wipe (σ.set i x) ws = (wipe σ ws).set i x := by
        intro ws
        induction ws with
        | nil => intro _; rfl
        | cons w ws ih =>
          intro hw
          unfold wipe
          rw [ih (fun z => hw (List.mem_cons_of_mem _ z)), List.set_comm _ _ (fun z => hw (by rw [z]; exact List.mem_cons_self))]
      rw [this hv, List.set_set]
abbrev QG := PyData → List SD → (List SD → Prop) → Prop
def okP : Option SD → Bool
  | some .un => true | some (.dt _) => true | _ => false
structure DG (X : Cx) (tg : Expr) (g : TG) (js : List Nat) (qg : QG) : Prop where
  pg : PG X tg g
  sim : ∀ F : Fm, F.K = X.K → ∀ d ρ R, qg d ρ R → ∀ S σ H v, En F S σ H ρ → Rp F.K (hid F S H) d v → ∀ R' : St → Hp → Prop,
    (∀ σ' ρ', En F S σ' H ρ' → σ'.length = σ.length → (∀ vs : List Nat, (∀ j ∈ js, j ∈ vs) → wipe σ' vs = wipe σ vs) → R ρ' → R' σ' H) → g v σ H R'
structure DGs (X : Cx) (ts : List Expr) (t : TGs) (js : List Nat) (qg : List PyData → List SD → (List SD → Prop) → Prop) : Prop where
  pg : PGs X ts t
  sim : ∀ F : Fm, F.K = X.K → ∀ ds ρ R, qg ds ρ R → ∀ S σ H vs, En F S σ H ρ → RpL F.K (hid F S H) ds vs → ∀ R' : St → Hp → Prop,
    (∀ σ' ρ', En F S σ' H ρ' → σ'.length = σ.length → (∀ ws : List Nat, (∀ j ∈ js, j ∈ ws) → wipe σ' ws = wipe σ ws) → R ρ' → R' σ' H) → t vs σ H R'
section
variable {X : Cx} {tg : Expr} {ts : List Expr} {g : TG} {gs : TGs} {js js' : List Nat} {qg : QG} {pos : Pos}
def qgN (i : Nat) : QG := fun d ρ R => okP ρ[i]? = true ∧ R (ρ.set i (.dt d))
theorem dg_name (i : Nat) {x : Str} (h : PG X (.Name x pos) (gName i)) : DG X (.Name x pos) (gName i) [i] (qgN i) := by
  refine ⟨h, fun F hF d ρ R ⟨ok, hR⟩ S σ H v E r R' k => ?_⟩
  have ok' : okSlot ρ[i]? = true := by
    cases e : ρ[i]? with
    | none => rw [e] at ok; cases ok
    | some s => rw [e] at ok; cases s <;> first | rfl | cases ok
  have hS : S.set i none = S := by
    have hs : S[i]? = some none := by
      cases e : ρ[i]? with
      | none => rw [e] at ok; cases ok
      | some s =>
        have q := E.at_ i s e
        rw [e] at ok
        cases s with
        | un => exact q
        | dt d => exact q.1
        | ow _ => cases ok
        | pw _ => cases ok
    apply List.ext_getElem?
    intro j
    by_cases hj : j = i
    · subst hj; rw [List.getElem?_set_self (List.getElem?_eq_some_iff.mp hs).1, hs]
    · rw [List.getElem?_set_ne (Ne.symm hj)]
  have E2 := E.setd ok' r
  rw [hS] at E2
  exact k _ _ E2 (List.length_set ..) (fun vs hv => wipe_set (hv i (List.mem_singleton.mpr rfl))) hR
def qgNil : List PyData → List SD → (List SD → Prop) → Prop := fun ds ρ R => ds = [] ∧ R ρ
def qgCons (qg : QG) (qs : List PyData → List SD → (List SD → Prop) → Prop) : List PyData → List SD → (List SD → Prop) → Prop := fun ds ρ R => ∃ d r, ds = d :: r ∧ qg d ρ fun ρ1 => qs r ρ1 R
theorem dgs_nil : DGs X [] gNil [] qgNil := ⟨pgs_nil, fun F hF ds ρ R ⟨hd, hR⟩ S σ H vs E r R' k => ⟨by subst hd; exact rpl_nil.mp r, k σ ρ E rfl (fun _ _ => rfl) hR⟩⟩
theorem dgs_cons {qs : List PyData → List SD → (List SD → Prop) → Prop} (h1 : DG X tg g js qg) (h2 : DGs X ts gs js' qs) (hs : (assignEach (tg :: ts) X.env).map (·.2) = assign tg X.env :: (assignEach ts X.env).map (·.2) := by rfl) : DGs X (tg :: ts) (gCons g gs) (js ++ js') (qgCons qg qs) := by
  refine ⟨pgs_cons h1.pg h2.pg hs, fun F hF ds ρ R ⟨d, r, hd, hR⟩ S σ H vs E rr R' k => ?_⟩
  subst hd
  obtain ⟨x, ys, rfl, g1, g2⟩ := rpl_cons.mp rr
  refine ⟨x, ys, rfl, h1.sim F hF d ρ _ hR S σ H x E g1 _ fun σ1 ρ1 E1 l1 w1 hR1 => ?_⟩
  exact h2.sim F hF r ρ1 _ hR1 S σ1 H ys E1 g2 _ fun σ2 ρ2 E2 l2 w2 hR2 => k σ2 ρ2 E2 (l2.trans l1) (fun ws hw => (w2 ws fun j hj => hw j (List.mem_append_right _ hj)).trans (w1 ws fun j hj => hw j (List.mem_append_left _ hj))) hR2
def qgT (n : Nat) (qs : List PyData → List SD → (List SD → Prop) → Prop) : QG := fun d ρ R => ∃ ds, d = .tuple ds ∧ ds.length = n ∧ qs ds ρ R
theorem dg_tup {qs : List PyData → List SD → (List SD → Prop) → Prop} {k n : Nat} (hc : X.calm = true) (h : DGs X ts gs js qs) (hn : (assignEach ts X.env).length = n := by rfl) (hst : (assignEach ts X.env).findIdx? (·.1) = none := by rfl) : DG X (.Tuple ts k pos) (gTup X.K n gs) js (qgT n qs) := by
  refine ⟨pg_tup hc h.pg hn hst, fun F hF d ρ R ⟨ds, hd, hl, hR⟩ S σ H v E r R' kk => ?_⟩
  subst hd
  obtain ⟨a, xs, rfl, ha, ra⟩ := rp_tup.mp r
  exact ⟨a, xs, rfl, hF ▸ sqt_mono hide_le ha, by rw [ra.len]; exact hl, h.sim F hF ds ρ R hR S σ H xs E ra R' kk⟩
end

/-! ### for, while -/
section
variable {X : Cx} {tg iter c : Expr} {body : List Stmt} {wi : TI} {g : TG} {tb : TS} {js : List Nat} {qi : QI} {qg : QG} {qb : QS} {pos : Pos}
/-- what is left to say of a loop over xs -/
def ForG (qg : QG) (qb : QS) (D : DEnds) (xs : List PyData) (ρ1 : List SD) : Prop := ∃ I : Nat → List SD → Prop, I 0 ρ1 ∧
  (∀ i d ρ, xs[i]? = some d → I i ρ → qg d ρ fun ρ' => qb { nx := I (i + 1), ct := I (i + 1), bk := D.nx, rt := D.rt } ρ') ∧ ∀ ρ, I xs.length ρ → D.nx ρ
def qFor (qi : QI) (qg : QG) (qb : QS) : QS := fun D ρ => qi ρ fun xs ρ1 => ForG qg qb D xs ρ1
theorem ds_for (hp : PassesOwn (model X.prog X.w) X.A X.env X.xe) (hc : X.calm = true) (hi : DI X tg iter wi qi) (hg : DG X tg g js qg) (hb : DSs X body tb qb) (hs : ∀ x, foldedSetIterable iter X.env x = pure x := by intro _; rfl) :
    DS X (.For tg iter body [] pos) (tFor wi g tb) (qFor qi qg qb) := by
  refine ⟨ps_for hp hc hi.pi hg.pg hb.ps hs, fun F hF ρ D hq S σ H E D' k1 k2 k3 k4 => ?_⟩
  refine hi.sim F hF ρ _ hq S σ H E _ fun J xs H1 ρ1 E1 e1 hJ ⟨I, h0, hstep, hdone⟩ => ?_
  refine ⟨fun i m σ2 H2 => m = xs.length - i ∧ i ≤ xs.length ∧ ∃ S2 ρ2, En F S2 σ2 H2 ρ2 ∧ Same (hid F S H1) (hid F S2 H2) ∧ I i ρ2, ⟨xs.length, by simp, Nat.zero_le _, S, ρ1, E1, Same.refl _, h0⟩, ?_⟩
  rintro i m σ2 H2 ⟨rfl, hle, S2, ρ2, E2, e2, hI⟩
  obtain ⟨hgo, hstop⟩ := hJ S2 σ2 H2 ρ2 E2 e2 i
  by_cases hlt : i < xs.length
  · obtain ⟨go, yld⟩ := hgo _ (List.getElem?_eq_getElem hlt)
    refine .inr ⟨go, fun σ3 H3 => ∃ S3 ρ3, En F S3 σ3 H3 ρ3 ∧ Same (hid F S H1) (hid F S3 H3) ∧ I (i + 1) ρ3, fun σ3 H3 ⟨S3, ρ3, E3, e3, hI3⟩ => ⟨xs.length - (i + 1), by omega, rfl, hlt, S3, ρ3, E3, e3, hI3⟩, fun x H3 hy => ?_⟩
    obtain ⟨es, rx⟩ := yld x H3 hy
    have E3 := E2.ext es
    have e3 : Same (hid F S H1) (hid F S2 H3) := e2.trans (hide_same es)
    refine hg.sim F hF _ ρ2 _ (hstep i _ ρ2 (List.getElem?_eq_getElem hlt) hI) S2 σ2 H3 x E3 rx _ fun σ4 ρ4 E4 _ _ hq4 => ?_
    refine hb.sim F hF ρ4 _ hq4 S2 σ4 H3 E4 _ (fun S5 σ5 H5 ρ5 E5 e5 z => ⟨S5, ρ5, E5, e3.trans e5, z⟩) (fun S5 σ5 H5 ρ5 E5 e5 z => k1 S5 σ5 H5 ρ5 E5 (e1.same.trans (e3.trans e5)) z) (fun S5 σ5 H5 ρ5 E5 e5 z => ⟨S5, ρ5, E5, e3.trans e5, z⟩) (fun S5 σ5 H5 ρ5 r v E5 r5 z => k4 S5 σ5 H5 ρ5 r v E5 r5 z)
  · have ei : i = xs.length := by omega
    subst ei
    exact .inl ⟨hstop (Nat.le_refl _), k1 S2 σ2 H2 ρ2 E2 (e1.same.trans e2) (hdone ρ2 hI)⟩
def qWhile (qc : QT) (qb : QS) : QS := fun D ρ => ∃ (I : List SD → Prop) (μ : List SD → Nat), I ρ ∧
  ∀ ρ, I ρ → qc ρ fun b ρ1 => if b = true then qb { nx := fun ρ' => I ρ' ∧ μ ρ' < μ ρ, ct := fun ρ' => I ρ' ∧ μ ρ' < μ ρ, bk := D.nx, rt := D.rt } ρ1 else D.nx ρ1
theorem ds_while {tc : TT} {qc : QT} (hp : PassesOwn (model X.prog X.w) X.A X.env X.xe) (hc : DT X c tc qc) (hb : DSs X body tb qb) : DS X (.While c body [] pos) (tWhile tc tb) (qWhile qc qb) := by
  refine ⟨ps_while hp hc.pt hb.ps, fun F hF ρ D ⟨I, μ, h0, hstep⟩ S σ H E D' k1 k2 k3 k4 => ?_⟩
  refine ⟨fun m σ2 H2 => ∃ S2 ρ2, En F S2 σ2 H2 ρ2 ∧ Same (hid F S H) (hid F S2 H2) ∧ I ρ2 ∧ m = μ ρ2, ⟨μ ρ, S, ρ, E, Same.refl _, h0, rfl⟩, ?_⟩
  rintro m σ2 H2 ⟨S2, ρ2, E2, e2, hI, rfl⟩
  refine hc.sim F hF ρ2 _ (hstep ρ2 hI) S2 σ2 H2 E2 _ fun b H3 ρ3 E3 e3 hq3 => ?_
  have e3' := e2.trans e3.same
  cases b with
  | false => exact k1 S2 σ2 H3 ρ3 E3 e3' (by simpa using hq3)
  | true =>
    refine ⟨fun σ5 H5 => ∃ S5 ρ5, En F S5 σ5 H5 ρ5 ∧ Same (hid F S H) (hid F S5 H5) ∧ I ρ5 ∧ μ ρ5 < μ ρ2, fun σ5 H5 ⟨S5, ρ5, E5, e5, z1, z2⟩ => ⟨μ ρ5, z2, S5, ρ5, E5, e5, z1, rfl⟩, ?_⟩
    exact hb.sim F hF ρ3 { nx := fun ρ' => I ρ' ∧ μ ρ' < μ ρ2, ct := fun ρ' => I ρ' ∧ μ ρ' < μ ρ2, bk := D.nx, rt := D.rt } (by simpa using hq3) S2 σ2 H3 E3 _ (fun S5 σ5 H5 ρ5 E5 e5 z => ⟨S5, ρ5, E5, e3'.trans e5, z⟩) (fun S5 σ5 H5 ρ5 E5 e5 z => k1 S5 σ5 H5 ρ5 E5 (e3'.trans e5) z) (fun S5 σ5 H5 ρ5 E5 e5 z => ⟨S5, ρ5, E5, e3'.trans e5, z⟩) (fun S5 σ5 H5 ρ5 r v E5 r5 z => k4 S5 σ5 H5 ρ5 r v E5 r5 z)
end

/-! ### list comprehensions -/
def wipeR (ρ : List SD) : List Nat → List SD
  | [] => ρ
  | v :: vs => (wipeR ρ vs).set v .un
def unwipe (ρ ρ' : List SD) : List Nat → List SD
  | [] => ρ'
  | v :: vs => (unwipe ρ ρ' vs).set v (ρ.getD v .un)
def freeV (ρ : List SD) (vs : List Nat) : Bool := vs.all fun v => okP ρ[v]?
theorem wipeR_length (ρ : List SD) : ∀ vs : List Nat, (wipeR ρ vs).length = ρ.length
  | [] => rfl
  | v :: vs => by unfold wipeR; rw [List.length_set, wipeR_length ρ vs]
theorem wipeR_get {ρ : List SD} {i : Nat} : ∀ {vs : List Nat}, (wipeR ρ vs)[i]? = if i ∈ vs ∧ i < ρ.length then some .un else ρ[i]?
  | [] => by simp [wipeR]
  | v :: vs => by
    unfold wipeR
    by_cases hi : v = i
    · subst hi
      by_cases hl : v < ρ.length
      · rw [List.getElem?_set_self (by rw [wipeR_length]; exact hl), if_pos ⟨List.mem_cons_self, hl⟩]
      · rw [List.getElem?_eq_none (by rw [List.length_set, wipeR_length]; omega), if_neg (fun z => hl z.2), List.getElem?_eq_none (by omega)]
    · rw [List.getElem?_set_ne hi, wipeR_get (vs := vs)]
      have : (i ∈ v :: vs ∧ i < ρ.length) ↔ (i ∈ vs ∧ i < ρ.length) := by
        rw [List.mem_cons]
        exact ⟨fun ⟨a, b⟩ => ⟨a.resolve_left (fun z => hi z.symm), b⟩, fun ⟨a, b⟩ => ⟨.inr a, b⟩⟩
      by_cases hc : i ∈ vs ∧ i < ρ.length
      · rw [if_pos hc, if_pos (this.mpr hc)]
      · rw [if_neg hc, if_neg (fun z => hc (this.mp z))]
theorem unwipe_length (ρ ρ' : List SD) : ∀ vs : List Nat, (unwipe ρ ρ' vs).length = ρ'.length
  | [] => rfl
  | v :: vs => by unfold unwipe; rw [List.length_set, unwipe_length ρ ρ' vs]
theorem unwipe_get {ρ ρ' : List SD} {i : Nat} (hl : ρ.length = ρ'.length) : ∀ {vs : List Nat}, (unwipe ρ ρ' vs)[i]? = if i ∈ vs then ρ[i]? else ρ'[i]?
  | [] => by simp [unwipe]
  | v :: vs => by
    unfold unwipe
    by_cases hi : v = i
    · subst hi
      rw [if_pos List.mem_cons_self]
      by_cases hv : v < ρ'.length
      · rw [List.getElem?_set_self (by rw [unwipe_length]; exact hv)]
        have hv' : v < ρ.length := by omega
        simp [List.getD, hv']
      · rw [List.getElem?_eq_none (by rw [List.length_set, unwipe_length]; omega), List.getElem?_eq_none (by omega)]
    · rw [List.getElem?_set_ne hi, unwipe_get hl (vs := vs)]
      have : (i ∈ v :: vs) ↔ (i ∈ vs) := by
        rw [List.mem_cons]
        exact ⟨fun a => a.resolve_left (fun z => hi z.symm), .inr⟩
      by_cases hc : i ∈ vs
      · rw [if_pos hc, if_pos (this.mpr hc)]
      · rw [if_neg hc, if_neg (fun z => hc (this.mp z))]
theorem unwipe_wipe (ρ : List SD) (vs : List Nat) : unwipe ρ (wipeR ρ vs) vs = ρ := by
  apply List.ext_getElem?
  intro i
  rw [unwipe_get (wipeR_length ρ vs).symm, wipeR_get]
  by_cases h : i ∈ vs
  · rw [if_pos h]
  · rw [if_neg h, if_neg (fun z => h z.1)]
theorem wipe_get {σ : St} {i : Nat} : ∀ {vs : List Nat}, i ∉ vs → (wipe σ vs)[i]? = σ[i]?
  | [], _ => rfl
  | v :: vs, h => by
    unfold wipe
    rw [List.getElem?_set_ne (fun z => h (by rw [z]; exact List.mem_cons_self)), wipe_get (fun z => h (List.mem_cons_of_mem _ z))]
theorem wipe_mem {σ : St} {i : Nat} (hi : i < σ.length) : ∀ {vs : List Nat}, i ∈ vs → (wipe σ vs)[i]? = some none
  | [], h => by cases h
  | v :: vs, h => by
    unfold wipe
    by_cases e : v = i
    · subst e
      rw [List.getElem?_set_self (by rw [wipe_length]; exact hi)]
    · rw [List.getElem?_set_ne e]
      exact wipe_mem hi (by
        rcases List.mem_cons.mp h with z | z
        · exact absurd z.symm e
        · exact z)
theorem wipe_wipe (σ : St) (vs : List Nat) : wipe (wipe σ vs) vs = wipe σ vs := by
  apply List.ext_getElem?
  intro i
  by_cases h : i ∈ vs
  · by_cases hi : i < σ.length
    · rw [wipe_mem (by rw [wipe_length]; exact hi) h, wipe_mem hi h]
    · rw [List.getElem?_eq_none (by rw [wipe_length, wipe_length]; omega), List.getElem?_eq_none (by rw [wipe_length]; omega)]
  · rw [wipe_get h]
section
variable {F : Fm} {S : List (Option Addr)} {σ : St} {H H' : Hp} {ρ : List SD} {vs : List Nat}
theorem En.free (E : En F S σ H ρ) (h : freeV ρ vs = true) : ∀ v ∈ vs, S[v]? = some none := fun v hv => by
  have ok := List.all_eq_true.mp h v hv
  cases e : ρ[v]? with
  | none => rw [e] at ok; cases ok
  | some s =>
    have q := E.at_ v s e
    rw [e] at ok
    cases s with
    | un => exact q
    | dt d => exact q.1
    | ow _ => cases ok
    | pw _ => cases ok
theorem En.wiped (E : En F S σ H ρ) (h : ∀ v ∈ vs, S[v]? = some none) : En F S (wipe σ vs) H (wipeR ρ vs) := by
  refine ⟨by rw [wipeR_length, wipe_length]; exact E.len, by rw [wipeR_length]; exact E.lenS, E.bf, E.fr, E.inj, fun a ht => ?_, fun i a h1 h2 => ?_, fun i r hr => ?_⟩
  · obtain ⟨i, xs, h1, h2⟩ := E.tw a ht
    have hi : i ∉ vs := fun z => by rw [h i z] at h2; cases h2
    exact ⟨i, xs, by rw [wipeR_get, if_neg (fun z => hi z.1)]; exact h1, h2⟩
  · rw [wipeR_get] at h1
    split at h1
    · cases h1
    · exact E.an i a h1 h2
  · rw [wipeR_get] at hr
    split at hr
    · rename_i hc
      cases hr
      exact h i hc.1
    · rename_i hc
      have hl := (List.getElem?_eq_some_iff.mp hr).1
      have hi : i ∉ vs := fun z => hc ⟨z, hl⟩
      rw [wipe_get hi]
      exact E.at_ i r hr
theorem En.unwiped {H1 : Hp} {ρ2 : List SD} {S2 : List (Option Addr)} (E0 : En F S σ H1 ρ) (h : ∀ v ∈ vs, S[v]? = some none) (hS : ∀ i, i < ρ.length → S2[i]? = S[i]?) (E : En F S2 (wipe σ vs) H ρ2) (e : Same (hid F S H1) (hid F S2 H)) : En F S2 σ H (unwipe ρ ρ2 vs) := by
  have hl : ρ.length = ρ2.length := by rw [E0.len, E.len, wipe_length]
  refine ⟨by rw [unwipe_length, E.len, wipe_length], by rw [unwipe_length]; exact E.lenS, E.bf, E.fr, E.inj, fun a ht => ?_, fun i a h1 h2 => ?_, fun i r hr => ?_⟩
  · obtain ⟨i, xs, h1, h2⟩ := E.tw a ht
    have hlt : i < ρ.length := by rw [hl]; exact (List.getElem?_eq_some_iff.mp h1).1
    have hi : i ∉ vs := fun z => by rw [hS i hlt, h i z] at h2; cases h2
    exact ⟨i, xs, by rw [unwipe_get hl, if_neg hi]; exact h1, h2⟩
  · rw [unwipe_get hl] at h1
    split at h1
    · have : ρ2[i]? = none := List.getElem?_eq_none_iff.mpr (by rw [← hl]; exact List.getElem?_eq_none_iff.mp h1)
      exact E.an i a this h2
    · exact E.an i a h1 h2
  · rw [unwipe_get hl] at hr
    split at hr
    · rename_i hi
      have hlt := (List.getElem?_eq_some_iff.mp hr).1
      have q := E0.at_ i r hr
      have hs := h i hi
      rw [hS i hlt]
      cases r with
      | un => exact hs
      | dt d => exact ⟨hs, q.2.choose, q.2.choose_spec.1, q.2.choose_spec.2.mono e⟩
      | ow xs => obtain ⟨a, vs', q1, _⟩ := q; rw [hs] at q1; cases q1
      | pw xs => obtain ⟨a, vs', q1, _⟩ := q; rw [hs] at q1; cases q1
    · rename_i hi
      have q := E.at_ i r hr
      rw [wipe_get hi] at q
      exact q
end
/-- what is left to say of a comprehension over xs -/
def LcG (qg : QG) (qt : QT) (qe : QE) (vs : List Nat) (xs : List PyData) (ρ1 : List SD) (Q : SD → List SD → Prop) : Prop :=
  freeV ρ1 vs = true ∧ xs.length ≤ sizeLine ∧ ∃ I : Nat → List PyData → List SD → Prop, I 0 [] (wipeR ρ1 vs) ∧
    (∀ i acc ρ2 d, xs[i]? = some d → I i acc ρ2 → qg d ρ2 fun ρ3 => qt ρ3 fun b ρ4 => if b = true then qe ρ4 fun s ρ5 => I (i + 1) (acc ++ [s.dat]) (wipeR ρ5 vs) else I (i + 1) acc (wipeR ρ4 vs)) ∧
    ∀ acc ρ2, I xs.length acc ρ2 → Q (.ow acc) (unwipe ρ1 ρ2 vs)
def qLc (qi : QI) (qg : QG) (qt : QT) (qe : QE) (vs : List Nat) : QE := fun ρ Q => qi ρ fun xs ρ1 => LcG qg qt qe vs xs ρ1 Q
/-- one that changes nothing -/
theorem lc_pure {qg : QG} {qt : QT} {qe : QE} {vs : List Nat} {xs : List PyData} {ρ : List SD} {Q : SD → List SD → Prop} (hf : freeV ρ vs = true) (hz : xs.length ≤ sizeLine) (f : PyData → Option PyData)
    (h : ∀ d ∈ xs, qg d (wipeR ρ vs) fun ρ3 => qt ρ3 fun b ρ4 => if b = true then qe ρ4 fun s ρ5 => wipeR ρ5 vs = wipeR ρ vs ∧ f d = some s.dat else wipeR ρ4 vs = wipeR ρ vs ∧ f d = none)
    (mg : ∀ d ρ (R R' : List SD → Prop), (∀ ρ', R ρ' → R' ρ') → qg d ρ R → qg d ρ R') (mt : ∀ ρ (R R' : Bool → List SD → Prop), (∀ b ρ', R b ρ' → R' b ρ') → qt ρ R → qt ρ R') (me : ∀ ρ (R R' : SD → List SD → Prop), (∀ b ρ', R b ρ' → R' b ρ') → qe ρ R → qe ρ R')
    (hQ : Q (.ow (xs.filterMap f)) ρ) : LcG qg qt qe vs xs ρ Q := by
  refine ⟨hf, hz, fun i acc ρ2 => acc = (xs.take i).filterMap f ∧ ρ2 = wipeR ρ vs, ⟨by simp, rfl⟩, ?_, ?_⟩
  · rintro i acc ρ2 d hd ⟨rfl, rfl⟩
    have ht : xs.take (i + 1) = xs.take i ++ [d] := by rw [List.take_add_one, hd]; rfl
    refine mg _ _ _ _ (fun ρ3 h3 => mt _ _ _ (fun b ρ4 h4 => ?_) h3) (h d (List.mem_of_getElem? hd))
    cases b with
    | true =>
      refine iteT (me ρ4 (fun s ρ5 => wipeR ρ5 vs = wipeR ρ vs ∧ f d = some s.dat) _ (fun s ρ5 h5 => ⟨?_, h5.1⟩) (by simpa using h4))
      rw [ht, List.filterMap_append]
      simp [h5.2]
    | false =>
      have h4' : wipeR ρ4 vs = wipeR ρ vs ∧ f d = none := by simpa using h4
      refine iteF ⟨?_, h4'.1⟩
      rw [ht, List.filterMap_append]
      simp [h4'.2]
  · rintro acc ρ2 ⟨rfl, rfl⟩
    rw [unwipe_wipe, List.take_length]
    exact hQ
structure DTs (X : Cx) (ifs : List Expr) (t : TT) (q : QT) : Prop where
  pt : PTs X ifs t
  sim : ∀ F : Fm, F.K = X.K → ∀ ρ Q, q ρ Q → EvT F t ρ Q
def qYes : QT := fun ρ Q => Q true ρ
theorem dts_nil {X : Cx} : DTs X [] tYes qYes := ⟨pts_nil, fun F hF ρ Q hq S σ H E Q' k => k true H ρ E (Gr.refl _ _ _ _) hq⟩
theorem dts_one {X : Cx} {c : Expr} {t : TT} {q : QT} (h : DT X c t q) : DTs X [c] t q := ⟨pts_one h.pt, h.sim⟩
section
variable {X : Cx} {elt tg iter : Expr} {ifs : List Expr} {scope : Scope} {own : List (Str × Nat)} {pos pos' : Pos} {wi : TI} {g : TG} {tt : TT} {te : TE} {js : List Nat} {qi : QI} {qg : QG} {qt : QT} {qe : QE}
theorem sim_lc (hi : DI X tg iter wi qi) (hgs : ∀ F : Fm, F.K = X.K → ∀ d ρ R, qg d ρ R → ∀ S σ H v, En F S σ H ρ → Rp F.K (hid F S H) d v → ∀ R' : St → Hp → Prop,
    (∀ σ' ρ', En F S σ' H ρ' → σ'.length = σ.length → (∀ vs : List Nat, (∀ j ∈ js, j ∈ vs) → wipe σ' vs = wipe σ vs) → R ρ' → R' σ' H) → g v σ H R')
    (hts : ∀ F : Fm, F.K = X.K → ∀ ρ Q, qt ρ Q → EvT F tt ρ Q) (hes : ∀ F : Fm, F.K = X.K → ∀ ρ Q, qe ρ Q → Ev F te ρ Q) (vs : List Nat) (hjs : ∀ j ∈ js, j ∈ vs) :
    ∀ F : Fm, F.K = X.K → ∀ ρ Q, qLc qi qg qt qe vs ρ Q → Ev F (tLc wi g tt te vs) ρ Q := by
  intro F hF ρ Q hq S σ H E Q' k
  refine hi.sim F hF ρ _ hq S σ H E _ fun J xs H1 ρ1 E1 e1 hJ ⟨hf, hz, I, h0, hstep, hdone⟩ => fun D hD => ?_
  have hfr := E1.free hf
  have hS2 : ∀ i, i < ρ1.length → (S ++ [some D])[i]? = S[i]? := fun i hi => List.getElem?_append_left (Nat.lt_of_lt_of_le hi E1.lenS)
  have hfr2 : ∀ v ∈ vs, (S ++ [some D])[v]? = some none := fun v hv => by
    have := hfr v hv
    rw [List.getElem?_append_left (List.getElem?_eq_some_iff.mp this).1]
    exact this
  have hDS : (S ++ [some D])[S.length]? = some (some D) := by simp
  have hne : ¬ hp F S D := E1.new hD
  have start : Same (hid F S H1) (hid F (S ++ [some D]) (upd H1 D (.lst []))) := fun b o q => by
    obtain ⟨q1, q2⟩ := hide_some.mp q
    refine hide_some.mpr ⟨fun z => ?_, same_new hD _ _ q2⟩
    rcases hp_snoc.mp z with z | z
    · exact q1 z
    · rw [z, hD] at q2; cases q2
  have nD : ∀ {σ2 : St} {H2 : Hp} {ρ2 : List SD}, En F (S ++ [some D]) σ2 H2 ρ2 → σ2.length = σ.length → σ2.length ≤ S.length := fun {σ2 H2 ρ2} E2 hl => by rw [hl, ← E1.len]; exact E1.lenS
  refine ⟨fun i m H2 => m = xs.length - i ∧ i ≤ xs.length ∧ ∃ acc accV ρ2, H2 D = some (.lst accV) ∧ RpL F.K (hid F (S ++ [some D]) H2) acc accV ∧ acc.length ≤ i ∧ En F (S ++ [some D]) (wipe σ vs) H2 ρ2 ∧ Same (hid F S H1) (hid F (S ++ [some D]) H2) ∧ (∀ (j : Nat) (a : Addr), σ.length ≤ j → S[j]? = some (some a) → H2 a = H1 a) ∧ I i acc ρ2,
    ⟨xs.length, by simp, Nat.zero_le _, [], [], _, upd_same, RpL.nil, Nat.le_refl _, ((E1.anon hD).wiped hfr2), start, fun j a _ h2 => upd_ne (fun z => hne (.inr (by rw [← z]; exact List.mem_of_getElem? h2))), h0⟩, ?_⟩
  rintro i m H2 ⟨rfl, hle, acc, accV, ρ2, hD2, ra, hal, E2, e2, an2, hI⟩
  obtain ⟨hgo, hstop⟩ := hJ _ _ H2 ρ2 E2 e2 i
  by_cases hlt : i < xs.length
  · obtain ⟨go, yld⟩ := hgo _ (List.getElem?_eq_getElem hlt)
    refine .inr ⟨go, fun H3 => i + 1 ≤ xs.length ∧ ∃ acc accV ρ2, H3 D = some (.lst accV) ∧ RpL F.K (hid F (S ++ [some D]) H3) acc accV ∧ acc.length ≤ i + 1 ∧ En F (S ++ [some D]) (wipe σ vs) H3 ρ2 ∧ Same (hid F S H1) (hid F (S ++ [some D]) H3) ∧ (∀ (j : Nat) (a : Addr), σ.length ≤ j → S[j]? = some (some a) → H3 a = H1 a) ∧ I (i + 1) acc ρ2, fun H3 h3 => ⟨xs.length - (i + 1), by omega, rfl, h3⟩, fun x H3 hy => ?_⟩
    obtain ⟨es, rx⟩ := yld x H3 hy
    have E3 := E2.ext es
    have G3 := Gr.ext E2 es
    refine hgs F hF _ ρ2 _ (hstep i acc ρ2 _ (List.getElem?_eq_getElem hlt) hI) _ _ H3 x E3 rx _ fun σ4 ρ4 E4 hl4 w4' hq4 => ?_
    have w4 : wipe σ4 vs = wipe σ vs := (w4' vs hjs).trans (wipe_wipe σ vs)
    refine ⟨w4, ?_⟩
    have hl4' : σ4.length = σ.length := by rw [hl4, wipe_length]
    refine hts F hF ρ4 _ hq4 _ σ4 H3 E4 _ fun b H5 ρ5 E5 G5 hq5 => ?_
    have anc : ∀ {Ha Hb : Hp}, Gr F (S ++ [some D]) σ4.length Ha Hb → (∀ (j : Nat) (a : Addr), σ.length ≤ j → S[j]? = some (some a) → Ha a = H1 a) → ∀ (j : Nat) (a : Addr), σ.length ≤ j → S[j]? = some (some a) → Hb a = H1 a := fun {Ha Hb} G h j a h1 h2 => by
      rw [G.an j a (by rw [hl4']; exact h1) (by rw [List.getElem?_append_left (List.getElem?_eq_some_iff.mp h2).1]; exact h2)]
      exact h j a h1 h2
    have an3 : ∀ (j : Nat) (a : Addr), σ.length ≤ j → S[j]? = some (some a) → H3 a = H1 a := fun j a h1 h2 => by
      rw [G3.an j a (by rw [wipe_length]; exact h1) (by rw [List.getElem?_append_left (List.getElem?_eq_some_iff.mp h2).1]; exact h2)]
      exact an2 j a h1 h2
    have hD3 : H3 D = some (.lst accV) := es _ _ hD2
    have hD5 : H5 D = some (.lst accV) := by rw [G5.an S.length D (by rw [hl4']; rw [← E1.len]; exact E1.lenS) hDS]; exact hD3
    have e5 : Same (hid F (S ++ [some D]) H2) (hid F (S ++ [some D]) H5) := (hide_same es).trans G5.same
    cases b with
    | false => exact iteF ⟨hlt, acc, accV, _, hD5, ra.mono e5, Nat.le_succ_of_le hal, by rw [← w4]; exact E5.wiped hfr2, e2.trans e5, anc G5 an3, by simpa using hq5⟩
    | true =>
      refine iteT (hes F hF ρ5 _ (by simpa using hq5) _ σ4 H5 E5 _ fun s v H6 ρ6 E6 G6 r6 hq6 => ?_)
      have hD6 : H6 D = some (.lst accV) := by rw [G6.an S.length D (by rw [hl4']; rw [← E1.len]; exact E1.lenS) hDS]; exact hD5
      have e6 := e5.trans G6.same
      have rv := r6.rp E5
      have hh : hid F (S ++ [some D]) (upd H6 D (.lst (accV ++ [v]))) = hid F (S ++ [some D]) H6 := own_hide hDS
      refine ⟨accV, hD6, by rw [ra.len]; omega, hlt, acc ++ [s.dat], accV ++ [v], _, upd_same, by rw [hh]; exact (ra.mono e6).append (RpL.one rv), by rw [List.length_append]; exact Nat.succ_le_succ hal, ?_, by rw [hh]; exact e2.trans e6, fun j a h1 h2 => ?_, hq6⟩
      · have E7 := E6.wiped hfr2
        rw [w4] at E7
        refine ⟨E7.len, E7.lenS, E7.bf, fun b o h1 h2 => ?_, E7.inj, E7.tw, fun j a h1 h2 => ?_, fun j r hr => (E7.at_ j r hr).rehide (by rw [hh]; exact Same.refl _) fun a ws h1 h2 => ?_⟩
        · rw [upd_ne (fun z => by rw [z] at h1; have := E1.dom hD; rw [h1] at this; cases this)]
          exact E7.fr b o h1 h2
        · obtain ⟨q1, ws, q2⟩ := E7.an j a h1 h2
          by_cases ha : a = D
          · exact ⟨q1, accV ++ [v], by rw [ha]; exact upd_same⟩
          · exact ⟨q1, ws, by rw [upd_ne ha]; exact q2⟩
        · have hj : j < ρ1.length := by
            have := (List.getElem?_eq_some_iff.mp hr).1
            rw [E7.len, wipe_length] at this
            rw [E1.len]; exact this
          have : a ≠ D := fun z => by
            rw [z, hS2 j hj] at h1
            exact hne (.inr (List.mem_of_getElem? h1))
          rw [upd_ne this]; exact h2
      · rw [upd_ne (fun z => hne (.inr (by rw [← z]; exact List.mem_of_getElem? h2)))]
        exact anc G6 (anc G5 an3) j a h1 h2
  · have ei : i = xs.length := by omega
    subst ei
    refine .inl ⟨hstop (Nat.le_refl _), ?_⟩
    have E9 := En.unwiped E1 hfr hS2 E2 e2
    have hlu : (unwipe ρ1 ρ2 vs).length ≤ S.length := by rw [unwipe_length, E2.len, wipe_length, ← E1.len]; exact E1.lenS
    exact k (.ow acc) (.ref D) H2 _ (E9.unanon hlu) (e1.trans ⟨e2.trans (hide_anti fun b z => hp_snoc.mpr (.inl z)), an2⟩) ⟨D, accV, rfl, E.grow E1 e1.same hD, hD2, ra, E9⟩ (hdone acc ρ2 hI)
theorem dq_lc (hc : X.calm = true) (hN : X.N.Nodup) (hi : DI X tg iter wi qi) (ok : BlkOk X.N X.env.scope scope own)
    (hg : ∀ (s : Shared) (H : Hp) (C : Addr) (cl : List (Str × Addr)) (fp : List Addr), DG (X.blk s H scope (compEnvC scope cl C X.env) fp) tg g js qg) (ht : ∀ (s : Shared) (H : Hp) (C : Addr) (cl : List (Str × Addr)) (fp : List Addr), DTs (X.blk s H scope (compEnvC scope cl C X.env) fp) ifs tt qt)
    (he : ∀ (s : Shared) (H : Hp) (C : Addr) (cl : List (Str × Addr)) (fp : List Addr), DQ (X.blk s H scope (compEnvC scope cl C X.env) fp) elt te qe) (hjs : (js.all fun j => decide (j ∈ own.map (·.2))) = true := by decide) (hs : ∀ x, foldedSetIterable iter X.env x = pure x := by intro _; rfl) :
    DQ X (.ListComp elt [⟨tg, iter, ifs, 0⟩] scope pos) (tLc wi g tt te (own.map (·.2))) (qLc qi qg qt qe (own.map (·.2))) :=
  ⟨pe_lc hc hN hi.pi ok (fun s H C cl fp => (hg s H C cl fp).pg) (fun s H C cl fp => (ht s H C cl fp).pt) (fun s H C cl fp => (he s H C cl fp).pe) hs,
    sim_lc hi (hg X.s_0 X.H_0 0 [] []).sim (ht X.s_0 X.H_0 0 [] []).sim (he X.s_0 X.H_0 0 [] []).sim _ fun j hj => of_decide_eq_true (List.all_eq_true.mp hjs j hj)⟩
/-- y = [..] -/
theorem ds_asgLc {i : Nat} {y : Str} {py spos : Pos} (hc : X.calm = true) (hN : X.N.Nodup) (hy : X.N[i]? = some y) (hyl : X.env.scope.names.lookup y = some .local)
    (hsw : swapsWith (.ListComp elt [⟨tg, iter, ifs, 0⟩] scope pos) (some (.Name y py)) spos.line X.env = pure true) (hi : DI X tg iter wi qi) (ok : BlkOk X.N X.env.scope scope own)
    (hg : ∀ (s : Shared) (H : Hp) (C : Addr) (cl : List (Str × Addr)) (fp : List Addr), DG (X.blk s H scope (compEnvC scope cl C X.env) fp) tg g js qg) (ht : ∀ (s : Shared) (H : Hp) (C : Addr) (cl : List (Str × Addr)) (fp : List Addr), DTs (X.blk s H scope (compEnvC scope cl C X.env) fp) ifs tt qt)
    (he : ∀ (s : Shared) (H : Hp) (C : Addr) (cl : List (Str × Addr)) (fp : List Addr), DQ (X.blk s H scope (compEnvC scope cl C X.env) fp) elt te qe) (hjs : (js.all fun j => decide (j ∈ own.map (·.2))) = true := by decide) (hs : ∀ x, foldedSetIterable iter X.env x = pure x := by intro _; rfl) :
    DS X (.Assign [.Name y py] (.ListComp elt [⟨tg, iter, ifs, 0⟩] scope pos) spos) (tAsg (tLc wi g tt te (own.map (·.2))) (gName i)) (qAsg (qLc qi qg qt qe (own.map (·.2))) i) :=
  ⟨ps_setLc hc hN hy hyl hsw hi.pi ok (fun s H C cl fp => (hg s H C cl fp).pg) (fun s H C cl fp => (ht s H C cl fp).pt) (fun s H C cl fp => (he s H C cl fp).pe) hs,
    sim_asg (X := X) (sim_lc hi (hg X.s_0 X.H_0 0 [] []).sim (ht X.s_0 X.H_0 0 [] []).sim (he X.s_0 X.H_0 0 [] []).sim _ fun j hj => of_decide_eq_true (List.all_eq_true.mp hjs j hj))⟩
theorem ds_asgLcO {i : Nat} {y : Str} {py spos : Pos} (hc : X.calm = true) (hN : X.N.Nodup) (hy : X.N[i]? = some y) (hyl : X.env.scope.names.lookup y = some .local)
    (hsw : swapsWith (.ListComp elt [⟨tg, iter, ifs, 0⟩] scope pos) (some (.Name y py)) spos.line X.env = pure true) (hi : DI X tg iter wi qi) (ok : BlkOk X.N X.env.scope scope own)
    (hg : ∀ (s : Shared) (H : Hp) (C : Addr) (cl : List (Str × Addr)) (fp : List Addr), DG (X.blk s H scope (compEnvC scope cl C X.env) fp) tg g js qg) (ht : ∀ (s : Shared) (H : Hp) (C : Addr) (cl : List (Str × Addr)) (fp : List Addr), DTs (X.blk s H scope (compEnvC scope cl C X.env) fp) ifs tt qt)
    (he : ∀ (s : Shared) (H : Hp) (C : Addr) (cl : List (Str × Addr)) (fp : List Addr), DQ (X.blk s H scope (compEnvC scope cl C X.env) fp) elt te qe) (hjs : (js.all fun j => decide (j ∈ own.map (·.2))) = true := by decide) (hs : ∀ x, foldedSetIterable iter X.env x = pure x := by intro _; rfl) :
    DS X (.Assign [.Name y py] (.ListComp elt [⟨tg, iter, ifs, 0⟩] scope pos) spos) (tAsg (tLc wi g tt te (own.map (·.2))) (gName i)) (qAsgO (qLc qi qg qt qe (own.map (·.2))) i) :=
  ⟨ps_setLc hc hN hy hyl hsw hi.pi ok (fun s H C cl fp => (hg s H C cl fp).pg) (fun s H C cl fp => (ht s H C cl fp).pt) (fun s H C cl fp => (he s H C cl fp).pe) hs,
    sim_asgO (X := X) (sim_lc hi (hg X.s_0 X.H_0 0 [] []).sim (ht X.s_0 X.H_0 0 [] []).sim (he X.s_0 X.H_0 0 [] []).sim _ fun j hj => of_decide_eq_true (List.all_eq_true.mp hjs j hj))⟩
end
end DL
set_option Elab.async false
set_option linter.all false
set_option maxRecDepth 100000
set_option autoImplicit false
/-! DL5: calls of defs, what a def promises, at the data level. -/
namespace DL
open PySem PySem.Spec PyProof.Rows L2

/-- what a def does to data: the arguments (data; at most one list handed in to be changed), what comes back and what that list holds then -/
abbrev DSp := List SD → (SD → List PyData → Prop) → Prop
def hT (B : Addr → Prop) (T : Option Addr) (b : Addr) : Prop := B b ∨ T = some b
def ArgOk (K : PySem.W.Frag) (B : Addr → Prop) (T : Option Addr) (H : Hp) (s : SD) (x : Option V) : Prop := match s with
  | .dt d => ∃ v, x = some v ∧ Rp K (hide (hT B T) H) d v
  | .pw xs => ∃ a ws, T = some a ∧ x = some (.ref a) ∧ H a = some (.lst ws) ∧ RpL K (hide (hT B T) H) xs ws
  | _ => False
structure ArgR (K : PySem.W.Frag) (B : Addr → Prop) (T : Option Addr) (H : Hp) (as : List SD) (vs : List V) : Prop where
  len : as.length = vs.length
  bf : ∀ b, B b → H b ≠ none ∧ T ≠ some b
  tw : ∀ a, T = some a → ∃ (i : Nat) (xs : List PyData), as[i]? = some (.pw xs)
  one : ∀ (i j : Nat) (xs ys : List PyData), as[i]? = some (.pw xs) → as[j]? = some (.pw ys) → i = j
  at_ : ∀ (i : Nat) (s : SD), as[i]? = some s → ArgOk K B T H s (vs[i]?)
def OwnC (K : PySem.W.Frag) (h : Addr → Prop) (T : Option Addr) (H' : Hp) (ys : List PyData) : Prop := ∀ a, T = some a → ∃ ws, H' a = some (.lst ws) ∧ RpL K (hide h H') ys ws
def ResR (K : PySem.W.Frag) (B : Addr → Prop) (T : Option Addr) (H H' : Hp) (r : SD) (v : V) (ys : List PyData) : Prop := match r with
  | .dt d => Rp K (hide (hT B T) H') d v ∧ OwnC K (hT B T) T H' ys
  | .ow xs => ∃ p vs, v = .ref p ∧ H p = none ∧ H' p = some (.lst vs) ∧ RpL K (hide (fun b => hT B T b ∨ b = p) H') xs vs ∧ OwnC K (fun b => hT B T b ∨ b = p) T H' ys
  | _ => False
/-- the promise in the layer's words -/
def toSp (K : PySem.W.Frag) (d : DSp) : Sp := fun vs H Q _ => ∃ (B : Addr → Prop) (T : Option Addr) (as : List SD) (R : SD → List PyData → Prop), ArgR K B T H as vs ∧ d as R ∧
  ∀ r v H' ys, (∀ b o, H b = some o → T ≠ some b → H' b = some o) → ResR K B T H H' r v ys → R r ys → Q v H'

/-! ### the caller -/
section
variable {F : Fm} {S : List (Option Addr)} {σ : St} {H H' : Hp} {ρ : List SD}
theorem RpS.call {r : SD} {v : V} {T : Option Addr} {ys : List PyData} (E' : En F S σ H' ρ) (hT' : ∀ b, hT (fun b => hp F S b ∧ T ≠ some b) T b ↔ hp F S b) (hx : ∀ p xs vs, r = .ow xs → H p = none → H' p = some (.lst vs) → En F (S ++ [some p]) σ H' ρ) (h : ResR F.K (fun b => hp F S b ∧ T ≠ some b) T H H' r v ys) : RpS F S σ ρ H H' r v := by
  cases r with
  | un => exact h.elim
  | pw _ => exact h.elim
  | dt d =>
    obtain ⟨h1, _⟩ := h
    rw [hide_congr hT'] at h1
    exact h1
  | ow xs =>
    obtain ⟨p, vs, rfl, h1, h2, h3, _⟩ := h
    refine ⟨p, vs, rfl, h1, h2, ?_, hx p xs vs rfl h1 h2⟩
    rw [hid_snoc]
    rwa [hide_congr (fun b => or_congr (hT' b) Iff.rfl)] at h3
/-- behind a call that was handed data alone -/
theorem En.called {p : Addr} {vs : List V} (E : En F S σ H ρ) (k : Same H H') (h1 : H p = none) (h2 : H' p = some (.lst vs)) : En F (S ++ [some p]) σ H' ρ := by
  refine (E.anon (vs := vs) h1).ext fun b o q => ?_
  by_cases hb : b = p
  · rw [hb, upd_same] at q; cases q; rw [hb]; exact h2
  · rw [upd_ne hb] at q; exact k b o q
/-- behind a call that was handed an own list: what it holds now -/
theorem En.calledO {i : Nat} {xs ys : List PyData} {a : Addr} {ws : List V} (E : En F S σ H ρ) (h : ownOf ρ[i]? = some xs) (hs : S[i]? = some (some a)) (k : ∀ b o, H b = some o → b ≠ a → H' b = some o) (h2 : H' a = some (.lst ws)) (r : RpL F.K (hid F S H') ys ws) :
    En F S σ H' (setOwn ρ i ys) ∧ Gr F S σ.length H H' := by
  -- first the heap without the change, then the change
  obtain ⟨a', vs, s0, s1, s2, s3⟩ := own_at E h
  rw [hs] at s0; cases s0
  let G : Hp := upd H' a (.lst vs)
  have eG : Same H G := fun b o q => by
    by_cases hb : b = a
    · rw [hb, s2] at q; cases q; rw [hb]; exact upd_same
    · show upd H' a (.lst vs) b = some o
      rw [upd_ne hb]; exact k b o q hb
  have EG := E.ext eG
  have hh : hid F S G = hid F S H' := own_hide hs
  obtain ⟨E2, G2⟩ := EG.chg (ys := ys) (ws := ws) h hs (by rw [hh]; exact r)
  have e3 : upd G a (.lst ws) = H' := by
    funext b
    by_cases hb : b = a
    · rw [hb, upd_same, h2]
    · rw [upd_ne hb]; show upd H' a (.lst vs) b = H' b; rw [upd_ne hb]
  rw [e3] at E2 G2
  exact ⟨E2, (Gr.ext E eG).trans G2⟩
end
section
variable {X : Cx} {k : Nat} {f : Addr} {fd : FuncData} {ps : List Str} {x y : Str} {p p1 pos : Pos} {e : Expr} {es : List Expr} {t : TA} {q : QA} {d : DSp}
def qCall (d : DSp) (q : QA) : QE := fun ρ Q => q ρ fun ds ρ1 => d (ds.map .dt) fun r _ => Q r ρ1
theorem sim_call (ha : DA X es t q) : ∀ F : Fm, F.K = X.K → ∀ ρ Q, qCall d q ρ Q → Ev F (tCall (toSp X.K d) [] E0 t) ρ Q := by
  intro F hF ρ Q hq S σ H E Q' kk
  refine ha.sim F hF ρ _ hq S σ H E _ fun ds vs H1 ρ1 E1 e1 r1 hq1 => ?_
  rw [List.append_nil]
  have hTb : ∀ b, hT (fun b => hp F S b ∧ (none : Option Addr) ≠ some b) none b ↔ hp F S b := fun b => ⟨fun z => z.elim (·.1) (fun z => nomatch z), fun z => .inl ⟨z, fun z => nomatch z⟩⟩
  have nopw : ∀ (i : Nat) (xs : List PyData), (ds.map SD.dt)[i]? ≠ some (.pw xs) := fun i xs z => by
    rw [List.getElem?_map] at z
    cases h : ds[i]? with
    | none => rw [h] at z; cases z
    | some d => rw [h] at z; cases z
  refine ⟨fun b => hp F S b ∧ (none : Option Addr) ≠ some b, none, ds.map .dt, _, ⟨by rw [List.length_map]; exact r1.len.symm, fun b hb => ⟨E1.hid_there hb.1, fun z => nomatch z⟩, fun a z => (nomatch z), fun i j xs ys z => absurd z (nopw i xs), fun i s hs => ?_⟩, hq1, fun r v H2 ys ky res hR => ?_⟩
  · rw [List.getElem?_map] at hs
    cases h : ds[i]? with
    | none => rw [h] at hs; cases hs
    | some d =>
      rw [h] at hs
      cases hs
      obtain ⟨v, h1, h2⟩ := r1.get h
      refine ⟨v, h1, ?_⟩
      rw [hide_congr hTb, ← hF]
      exact h2
  · have es : Same H1 H2 := fun b o q => ky b o q fun z => nomatch z
    have E2 := E1.ext es
    exact kk r v H2 ρ1 E2 (e1.trans (Gr.ext E1 es)) ((RpS.call E2 hTb (fun p xs vs _ h1 h2 => E1.called es h1 h2) (hF ▸ res)).back E E1 e1.same) hR
theorem dq_call (G : FnOk X.prog X.w X.K X.mg X.base CX0 k f fd ps (toSp X.K d)) (hr : Room k X.A) (hg : Gl X x) (hm : X.mg x = some (.ref f)) (hk : PySem.W.keepIn X.K (.ref f) = true) (hb : Binds X.K fd ps []) (ha : DA X (e :: es) t q)
    (hdb : (x == ("__debug__" : Str)) = false := by decide) (he : starEach (e :: es) X.env = (false, eval e X.env) :: starEach es X.env := by rfl) (hpl : (backTo pos (starEach es X.env)).any (·.1) = false := by rfl) :
    DQ X (.Call (.Name x p) (e :: es) [] pos) (tCall (toSp X.K d) [] E0 t) (qCall d q) := ⟨pe_call G hr hg hm hk hb .nil pass0 ha.pa hdb he hpl, sim_call ha⟩
/-- the first argument an own list (by its name), the others data -/
def qCallO (i : Nat) (d : DSp) (q : QA) : QE := fun ρ Q => (ownOf ρ[i]?).isSome = true ∧ q ρ fun ds ρ1 => ∃ xs, ownOf ρ1[i]? = some xs ∧ d (.pw xs :: ds.map .dt) fun r ys => Q r (setOwn ρ1 i ys)
theorem sim_callO (i : Nat) (ha : DA X es t q) : ∀ F : Fm, F.K = X.K → ∀ ρ Q, qCallO i d q ρ Q → Ev F (tCall (toSp X.K d) [] E0 (tCons (tVar i) t)) ρ Q := by
  intro F hF ρ Q ⟨h0, hq⟩ S σ H E Q' kk
  obtain ⟨xs0, h0⟩ := Option.isSome_iff_exists.mp h0
  obtain ⟨a, vs0, s0, s1, s2, s3⟩ := own_at E h0
  refine ⟨.ref a, s1, ?_⟩
  refine ha.sim F hF ρ _ hq S σ H E _ fun ds vs H1 ρ1 E1 e1 r1 ⟨xs, g1, hq1⟩ => ?_
  show toSp X.K d ((V.ref a :: vs) ++ []) H1 Q' E0
  rw [List.append_nil]
  obtain ⟨b, ws, t0, t1, t2, t3⟩ := own_at E1 g1
  rw [s0] at t0; cases t0
  have hpa : hp F S a := .inr (List.mem_of_getElem? s0)
  have hTb : ∀ b, hT (fun b => hp F S b ∧ some a ≠ some b) (some a) b ↔ hp F S b := fun b => ⟨fun z => z.elim (·.1) (fun z => by cases z; exact hpa), fun z => by
    by_cases h : a = b
    · exact .inr (by rw [h])
    · exact .inl ⟨z, fun w => h (Option.some.inj w)⟩⟩
  have pw0 : ∀ (j : Nat) (zs : List PyData), (SD.pw xs :: ds.map SD.dt)[j]? = some (.pw zs) → j = 0 := fun j zs z => by
    cases j with
    | zero => rfl
    | succ j =>
      rw [List.getElem?_cons_succ, List.getElem?_map] at z
      cases h : ds[j]? with
      | none => rw [h] at z; cases z
      | some d => rw [h] at z; cases z
  refine ⟨fun b => hp F S b ∧ some a ≠ some b, some a, .pw xs :: ds.map .dt, _, ⟨by rw [List.length_cons, List.length_cons, List.length_map]; exact congrArg (· + 1) r1.len.symm, fun b hb => ⟨E1.hid_there hb.1, hb.2⟩, fun b z => ⟨0, xs, rfl⟩, fun j l ys zs z1 z2 => (pw0 j ys z1).trans (pw0 l zs z2).symm, fun j s hs => ?_⟩, hq1, fun r v H2 ys ky res hR => ?_⟩
  · cases j with
    | zero =>
      have hs' : SD.pw xs = s := Option.some.inj hs
      subst hs'
      refine ⟨a, ws, rfl, rfl, t2, ?_⟩
      rw [hide_congr hTb, ← hF]
      exact t3
    | succ j =>
      rw [List.getElem?_cons_succ, List.getElem?_map] at hs
      cases h : ds[j]? with
      | none => rw [h] at hs; cases hs
      | some d =>
        rw [h] at hs
        cases hs
        obtain ⟨v, h1, h2⟩ := r1.get h
        refine ⟨v, by rw [List.getElem?_cons_succ]; exact h1, ?_⟩
        rw [hide_congr hTb, ← hF]
        exact h2
  · have k2 : ∀ b o, H1 b = some o → b ≠ a → H2 b = some o := fun b o q hne => ky b o q fun z => hne (Option.some.inj z).symm
    have core : ∃ us, H2 a = some (.lst us) ∧ RpL F.K (hid F S H2) ys us := by
      cases r with
      | un => exact res.elim
      | pw _ => exact res.elim
      | dt d =>
        obtain ⟨_, c⟩ := res
        obtain ⟨us, c1, c2⟩ := c a rfl
        rw [hide_congr hTb, ← hF] at c2
        exact ⟨us, c1, c2⟩
      | ow zs =>
        obtain ⟨pp, vs', rfl, q1, q2, q3, c⟩ := res
        obtain ⟨us, c1, c2⟩ := c a rfl
        rw [hide_congr (fun b => or_congr (hTb b) Iff.rfl), ← hF] at c2
        exact ⟨us, c1, c2.mono (hide_anti fun b z => .inl z)⟩
    obtain ⟨us, c1, c2⟩ := core
    obtain ⟨E2, G2⟩ := E1.calledO g1 s0 k2 c1 c2
    refine kk r v H2 _ E2 (e1.trans G2) ?_ hR
    cases r with
    | un => exact res.elim
    | pw _ => exact res.elim
    | dt d =>
      obtain ⟨c, _⟩ := res
      rw [hide_congr hTb, ← hF] at c
      exact RpS.of c
    | ow zs =>
      obtain ⟨pp, vs', rfl, q1, q2, q3, c⟩ := res
      obtain ⟨us', c1', c2'⟩ := c a rfl
      rw [c1] at c1'; cases c1'
      rw [hide_congr (fun b => or_congr (hTb b) Iff.rfl), ← hF] at c2' q3
      have EA : En F (S ++ [some pp]) σ (upd H1 pp (.lst vs')) ρ1 := E1.anon q1
      have hs' : (S ++ [some pp])[i]? = some (some a) := by rw [List.getElem?_append_left (List.getElem?_eq_some_iff.mp s0).1]; exact s0
      have EB := (EA.calledO (H' := H2) g1 hs' (fun b o q hb => by
        by_cases hb2 : b = pp
        · rw [hb2, upd_same] at q; cases q; rw [hb2]; exact q2
        · rw [upd_ne hb2] at q; exact k2 b o q hb) c1 (by rw [hid_snoc]; exact c2')).1
      exact ⟨pp, vs', rfl, E.grow E1 e1.same q1, q2, by rw [hid_snoc]; exact q3, EB⟩
theorem dq_callO (i : Nat) (G : FnOk X.prog X.w X.K X.mg X.base CX0 k f fd ps (toSp X.K d)) (hr : Room k X.A) (hg : Gl X x) (hm : X.mg x = some (.ref f)) (hk : PySem.W.keepIn X.K (.ref f) = true) (hb : Binds X.K fd ps []) (hv : PE X (.Name y p1) (tVar i)) (ha : DA X es t q)
    (hdb : (x == ("__debug__" : Str)) = false := by decide) (he : starEach (.Name y p1 :: es) X.env = (false, eval (.Name y p1) X.env) :: starEach es X.env := by rfl) (hpl : (backTo pos (starEach es X.env)).any (·.1) = false := by rfl) :
    DQ X (.Call (.Name x p) (.Name y p1 :: es) [] pos) (tCall (toSp X.K d) [] E0 (tCons (tVar i) t)) (qCallO i d q) := ⟨pe_call G hr hg hm hk hb .nil pass0 (pa_cons hv ha.pa he) hdb he hpl, sim_callO i ha⟩
end
/-! ### a def keeps its promise -/
def pwOf (ρ : List SD) : List PyData := (ρ.findSome? fun s => match s with | .pw xs => some xs | _ => none).getD []
theorem pwOf_some : ∀ {ρ : List SD} {i : Nat} {xs : List PyData}, ρ[i]? = some (.pw xs) → ∃ (j : Nat) (ys : List PyData), ρ[j]? = some (.pw ys) ∧ pwOf ρ = ys
  | [], i, xs, h => by simp at h
  | s :: ρ, i, xs, h => by
    cases s with
    | pw zs => exact ⟨0, zs, rfl, rfl⟩
    | un =>
      cases i with
      | zero => cases h
      | succ i => obtain ⟨j, ys, h1, h2⟩ := pwOf_some (ρ := ρ) (i := i) (xs := xs) h; exact ⟨j + 1, ys, h1, h2⟩
    | dt d =>
      cases i with
      | zero => cases h
      | succ i => obtain ⟨j, ys, h1, h2⟩ := pwOf_some (ρ := ρ) (i := i) (xs := xs) h; exact ⟨j + 1, ys, h1, h2⟩
    | ow d =>
      cases i with
      | zero => cases h
      | succ i => obtain ⟨j, ys, h1, h2⟩ := pwOf_some (ρ := ρ) (i := i) (xs := xs) h; exact ⟨j + 1, ys, h1, h2⟩
theorem En.pwAt {F : Fm} {S : List (Option Addr)} {σ : St} {H : Hp} {ρ : List SD} (E : En F S σ H ρ) {a : Addr} (h : F.T = some a) : ∃ i : Nat, ρ[i]? = some (SD.pw (pwOf ρ)) ∧ S[i]? = some (some a) := by
  obtain ⟨i, xs, h1, h2⟩ := E.tw a h
  obtain ⟨j, ys, h3, h4⟩ := pwOf_some h1
  obtain ⟨b, vs, q1, q2, _⟩ := E.at_ j _ h3
  rw [h] at q2
  have := Option.some.inj q2
  subst this
  exact ⟨j, by rw [h4]; exact h3, q1⟩
section
variable {P : Program} {w : World} {K : PySem.W.Frag} {mg : Str → Option Value} {base : Heap}
theorem start_get {N : List Str} {vs : List V} {i : Nat} (hi : i < vs.length) : (L2.start N vs)[i]? = some (vs[i]?) := by
  unfold L2.start
  rw [List.getElem?_append_left (by rw [List.length_map]; exact hi), List.getElem?_map, List.getElem?_eq_getElem hi]
  rfl
def slT (T : Option Addr) : SD → Option Addr
  | .pw _ => T | _ => none
theorem start_dl {X : Cx} {N ps : List Str} {d : DSp} {sts : List Stmt} {t : TS} {q : QS} {vs : List V} {H : Hp} {Q : VK} {E : XK} (D : DSs X sts t q) (hXK : K = X.K) (len : ∀ as R, d as R → as.length = ps.length)
    (hq : ∀ as R, d as R → q { nx := fun ρ => R (.dt .none) (pwOf ρ), rt := fun r ρ => R r (pwOf ρ) } (as ++ List.replicate (N.length - ps.length) .un)) (hsp : toSp K d vs H Q E) : t { nx := fun _ H' => Q .non H', rt := Q } (L2.start N vs) H := by
  obtain ⟨B, T, as, R, hA, hd, hk⟩ := hsp
  have hvl : vs.length = ps.length := by rw [← hA.len]; exact len as R hd
  -- the frame, the slots at the entry
  let Fr : Fm := { K := K, B := B, T := T, H0 := H }
  let ρ0 : List SD := as ++ List.replicate (N.length - ps.length) .un
  let S0 : List (Option Addr) := ρ0.map (slT T)
  have hal : as.length = ps.length := len as R hd
  have sget : ∀ i, S0[i]? = ρ0[i]?.map (slT T) := fun i => List.getElem?_map
  have inS : ∀ {i : Nat} {a : Addr}, S0[i]? = some (some a) → ∃ xs, as[i]? = some (.pw xs) ∧ T = some a := fun {i a} h => by
    rw [sget] at h
    cases e : ρ0[i]? with
    | none => rw [e] at h; cases h
    | some s =>
      rw [e] at h
      cases s with
      | un => cases h
      | dt d => cases h
      | ow d => cases h
      | pw xs =>
        have hT : T = some a := Option.some.inj h
        refine ⟨xs, ?_, hT⟩
        by_cases hi : i < as.length
        · rw [List.getElem?_append_left hi] at e; exact e
        · rw [List.getElem?_append_right (Nat.le_of_not_lt hi)] at e
          have := List.mem_of_getElem? e
          have := (List.mem_replicate.mp this).2
          cases this
  have toS : ∀ {i : Nat} {xs : List PyData}, as[i]? = some (.pw xs) → S0[i]? = some T := fun {i xs} h => by
    rw [sget, List.getElem?_append_left (List.getElem?_eq_some_iff.mp h).1, h]
    rfl
  have hhp : ∀ b, hp Fr S0 b ↔ hT B T b := fun b => by
    constructor
    · rintro (z | z)
      · exact .inl z
      · obtain ⟨i, hi⟩ := List.mem_iff_getElem?.mp z
        obtain ⟨xs, _, h2⟩ := inS hi
        exact .inr h2
    · rintro (z | z)
      · exact .inl z
      · obtain ⟨i, xs, hi⟩ := hA.tw b z
        have := toS hi
        rw [z] at this
        exact .inr (List.mem_of_getElem? this)
  have hhd : ∀ G : Hp, hid Fr S0 G = hide (hT B T) G := fun G => hide_congr hhp
  have E0 : En Fr S0 (L2.start N vs) H ρ0 := by
    refine ⟨?_, by rw [List.length_map]; exact Nat.le_refl _, hA.bf, fun b o h _ => h, fun i j a h1 h2 => ?_, fun a ht => ?_, fun i a h1 h2 => ?_, fun i r hr => ?_⟩
    · show (as ++ List.replicate (N.length - ps.length) SD.un).length = (L2.start N vs).length
      unfold L2.start
      rw [List.length_append, List.length_append, List.length_map, List.length_replicate, List.length_replicate, hA.len, hvl]
    · obtain ⟨xs, g1, _⟩ := inS h1
      obtain ⟨ys, g2, _⟩ := inS h2
      exact hA.one i j xs ys g1 g2
    · obtain ⟨i, xs, hi⟩ := hA.tw a ht
      refine ⟨i, xs, ?_, ?_⟩
      · show (as ++ _)[i]? = _
        rw [List.getElem?_append_left (List.getElem?_eq_some_iff.mp hi).1]; exact hi
      · have := toS hi
        have ht' : T = some a := ht
        rw [ht'] at this
        exact this
    · rw [sget, h1] at h2; cases h2
    · by_cases hi : i < as.length
      · have hr' : as[i]? = some r := by
          have hr2 : (as ++ List.replicate (N.length - ps.length) SD.un)[i]? = some r := hr
          rw [List.getElem?_append_left hi] at hr2; exact hr2
        have hiv : i < vs.length := by rw [← hA.len]; exact hi
        have q := hA.at_ i r hr'
        have hs : S0[i]? = some (slT T r) := by rw [sget, hr]; rfl
        rw [hs, start_get hiv]
        cases r with
        | un => exact q.elim
        | ow _ => exact q.elim
        | dt d =>
          obtain ⟨v, h1, h2⟩ := q
          exact ⟨rfl, v, by rw [h1], by rw [hhd]; exact h2⟩
        | pw xs =>
          obtain ⟨a, ws, h1, h2, h3, h4⟩ := q
          exact ⟨a, ws, by rw [h1]; rfl, h1, by rw [h2], h3, by rw [hhd]; exact h4⟩
      · have hr2 : (as ++ List.replicate (N.length - ps.length) SD.un)[i]? = some r := hr
        rw [List.getElem?_append_right (Nat.le_of_not_lt hi)] at hr2
        have := (List.mem_replicate.mp (List.mem_of_getElem? hr2)).2
        subst this
        show S0[i]? = some none
        rw [sget, hr]
        rfl
  -- behind the body
  have sub : ∀ {S' : List (Option Addr)} {σ' : St} {H' : Hp} {ρ' : List SD}, En Fr S' σ' H' ρ' → ∀ b, hT B T b → hp Fr S' b := fun {S' σ' H' ρ'} E' b z => by
    rcases z with z | z
    · exact .inl z
    · obtain ⟨i, xs, _, h2⟩ := E'.tw b z
      exact .inr (List.mem_of_getElem? h2)
  have own : ∀ {S' : List (Option Addr)} {σ' : St} {H' : Hp} {ρ' : List SD}, En Fr S' σ' H' ρ' → OwnC K (hT B T) T H' (pwOf ρ') := fun {S' σ' H' ρ'} E' a ht => by
    obtain ⟨i, h1, h2⟩ := E'.pwAt (a := a) ht
    obtain ⟨b, us, q1, q2, q3, q4, q5⟩ := E'.at_ i _ h1
    rw [h2] at q1; cases q1
    exact ⟨us, q4, q5.mono (hide_anti (sub E'))⟩
  refine D.sim Fr hXK ρ0 _ (hq as R hd) S0 (L2.start N vs) H E0 { nx := fun _ H' => Q .non H', rt := Q } (fun S' σ' H' ρ' E' e' hR => ?_) (fun S' σ' H' ρ' E' e' hR => hR.elim) (fun S' σ' H' ρ' E' e' hR => hR.elim) (fun S' σ' H' ρ' r v E' res hR => ?_)
  · exact hk (.dt .none) .non H' _ (fun b o h1 h2 => E'.fr b o h1 h2) ⟨rp_non.mpr rfl, own E'⟩ hR
  · refine hk r v H' _ (fun b o h1 h2 => E'.fr b o h1 h2) ?_ hR
    cases r with
    | un => exact res.elim
    | pw _ => exact res.elim
    | dt d => exact ⟨Rp.mono (hide_anti (sub E')) (show Rp K (hid Fr S' H') d v from res), own E'⟩
    | ow xs =>
      obtain ⟨p, vs', rfl, h1, h2, h3, h4⟩ := res
      have sub2 : ∀ b, hT B T b ∨ b = p → hp Fr S' b ∨ b = p := fun b z => z.imp (sub E' b) id
      refine ⟨p, vs', rfl, h1, h2, h3.mono (hide_anti sub2), fun a ht => ?_⟩
      obtain ⟨i, g1, g2⟩ := E'.pwAt (a := a) ht
      obtain ⟨us, g3, g4⟩ := h4 i _ a g1 g2
      exact ⟨us, g3, g4.mono (hide_anti sub2)⟩
theorem fun_dl {x qual : Str} {st : Stmt} {f : Addr} {fd : FuncData} {N ps : List Str} {k : Nat} {d : DSp} (F : Fun K x qual st f fd) (S : FnScope N ps (defScope st)) (len : ∀ as R, d as R → as.length = ps.length)
    (hbody : ∀ (cdv : Value) (A : Around) (outer : List Env) (s : Shared) (H : Hp) (E : XK), Room k (A.deeper (envOfC qual (defScope st) s.heap.objs.size f cdv)) →
      ∃ t q, DSs (cxOf CX0 P w K mg base N qual (defScope st) f cdv A outer s H E).nox (defBody st) t q ∧ ∀ as R, d as R → q { nx := fun ρ => R (.dt .none) (pwOf ρ), rt := fun r ρ => R r (pwOf ρ) } (as ++ List.replicate (N.length - ps.length) .un)) :
    FnOk P w K mg base CX0 (k + 1) f fd ps (toSp K d) := by
  have len2 : ∀ vs H Q E, toSp K d vs H Q E → vs.length = ps.length := fun vs H Q E ⟨B, T, as, R, hA, hd, _⟩ => by rw [← hA.len]; exact len as R hd
  refine F.ok S len2 fun cdv A outer s H vs Q E hr hsp => ?_
  obtain ⟨t, q, D, hq⟩ := hbody cdv A outer s H E hr
  exact ⟨t, D.ps, start_dl D rfl len hq hsp⟩
end
end DL
set_option Elab.async false
set_option linter.all false
set_option maxRecDepth 100000
set_option autoImplicit false
/-! DL6: the rules in short, for a printed derivation. -/
namespace DL
open PySem PySem.Spec PyProof.Rows L2
open C8 (Cal pe_c)
section
variable {X : Cx} {k j i : Nat} {x y z : Str} {e a b c o : Expr} {es : List Expr} {te ta tb tc : TE} {t : TA} {qa qb qc qe : QE} {q : QA} {d : DSp} {p p1 p2 p3 pos pos' px py pz pt pt2 : Pos} {kt k2 : Nat}
/-! ### calls -/
theorem dq_c (G : Cal X.prog X.w X.K X.mg X.base k x (toSp X.K d) []) (hr : Room j X.A) (hk : k ≤ j) (hg : Gl X x) (ha : DA X (e :: es) t q)
    (hdb : (x == ("__debug__" : Str)) = false := by decide) (he : starEach (e :: es) X.env = (false, eval e X.env) :: starEach es X.env := by rfl) (hpl : (backTo pos (starEach es X.env)).any (·.1) = false := by rfl) :
    DQ X (.Call (.Name x p) (e :: es) [] pos) (tCall (toSp X.K d) [] E0 t) (qCall d q) := ⟨pe_c G hr hk hg ha.pa hdb he hpl, sim_call ha⟩
theorem dq_cO (i : Nat) (G : Cal X.prog X.w X.K X.mg X.base k x (toSp X.K d) []) (hr : Room j X.A) (hk : k ≤ j) (hg : Gl X x) (hv : PE X (.Name y p1) (tVar i)) (ha : DA X es t q)
    (hdb : (x == ("__debug__" : Str)) = false := by decide) (he : starEach (.Name y p1 :: es) X.env = (false, eval (.Name y p1) X.env) :: starEach es X.env := by rfl) (hpl : (backTo pos (starEach es X.env)).any (·.1) = false := by rfl) :
    DQ X (.Call (.Name x p) (.Name y p1 :: es) [] pos) (tCall (toSp X.K d) [] E0 (tCons (tVar i) t)) (qCallO i d q) := ⟨pe_c G hr hk hg (pa_cons hv ha.pa he) hdb he hpl, sim_callO i ha⟩
/-! ### * of numbers, texts -/
def rMulS : R2 := fun x y H Q => ∃ (z : Str) (n : Int), x = .str z ∧ y = .int n ∧ MulOk z n ∧ Q (.str (Txt.mul z n)) H
theorem op_mulS : OpR X (binaryOp .Mult) rMulS := by
  intro pins s σ H x y v u Q I rx ry h
  obtain ⟨z, n, rfl, rfl, hz, q⟩ := h
  obtain ⟨t, rfl⟩ := rx
  obtain ⟨t', rfl⟩ := ry
  exact PySem.SB.mul hz (fun t' tk => ⟨.str (Txt.mul z n), H, I.tok _, ⟨_, rfl⟩, q⟩)
def kMul : PyData → PyData → (SD → Prop) → Prop := fun d e Q => match d, e with
  | .int i, .int j => CMulW i j ∧ Q (.dt (.int (i * j)))
  | .str z, .int n => MulOk z n ∧ Q (.dt (.str (Txt.mul z n)))
  | _, _ => False
def rMulA : R2 := fun x y H Q => (rI CMulW fun i j => .int (i * j)) x y H Q ∨ rMulS x y H Q
theorem op_mulA : OpR X (binaryOp .Mult) rMulA := op_mulW.or op_mulS
theorem o2_mulA {K : PySem.W.Frag} : Op2 K rMulA kMul := by
  intro F S σ ρ H x y d e Q hF E h1 h2 hq Q' k
  cases d <;> cases e <;> first
    | exact hq.elim
    | exact .inl (o2_I (C := CMulW) (g := fun i j => i * j) F S σ ρ H x y _ _ Q hF E h1 h2 ⟨_, _, rfl, rfl, hq.1, hq.2⟩ Q' k)
    | exact .inr ⟨_, _, rp_str.mp h1, rp_int.mp h2, hq.1, ans (F := F) (S := S) (σ := σ) (ρ := ρ) k (rp_str.mpr rfl) hq.2⟩
theorem dq_mulA (ha : DQ X a ta qa) (hb : DQ X b tb qb) : DQ X (.BinOp a .Mult b pos) (tOp rMulA ta tb) (q2 kMul qa qb) := dq_op op_mulA o2_mulA ha hb
/-! ### x = e -/
theorem ds_set (i : Nat) (hN : X.N.Nodup) (h : DQ X e te qe) (hi : X.N[i]? = some x := by rfl) (hx : Loc X.env.scope x := by first | exact .inl rfl | exact .inr rfl) (hs : swapsWith e (some (.Name x pos')) pos.line X.env = pure false := by rfl)
    (hf : X.fn x = true ∨ X.env.scope.names.lookup x = some .local := by first | exact .inl rfl | exact .inr rfl) : DS X (.Assign [.Name x pos'] e pos) (tAsg te (gName i)) (qAsg qe i) := ds_asg h (ps_set hN hi hx h.pe hs hf)
theorem ds_setO (i : Nat) (hN : X.N.Nodup) (h : DQ X e te qe) (hi : X.N[i]? = some x := by rfl) (hx : Loc X.env.scope x := by first | exact .inl rfl | exact .inr rfl) (hs : swapsWith e (some (.Name x pos')) pos.line X.env = pure false := by rfl)
    (hf : X.fn x = true ∨ X.env.scope.names.lookup x = some .local := by first | exact .inl rfl | exact .inr rfl) : DS X (.Assign [.Name x pos'] e pos) (tAsg te (gName i)) (qAsgO qe i) := ds_asgO h (ps_set hN hi hx h.pe hs hf)
/-! ### a, b = x, y: names that may be captured (stored one by one) need their own rule; here plain locals -/
theorem da_two (ha : DQ X a ta qa) (hb : DQ X b tb qb) (h1 : starEach [a, b] X.env = (false, eval a X.env) :: starEach [b] X.env := by rfl) (h2 : starEach [b] X.env = (false, eval b X.env) :: starEach [] X.env := by rfl) : PA X [a, b] (tCons ta (tCons tb tNil)) := pa_cons ha.pe (pa_cons hb.pe pa_nil h2) h1
theorem da_three (ha : DQ X a ta qa) (hb : DQ X b tb qb) (hc : DQ X c tc qc) (h1 : starEach [a, b, c] X.env = (false, eval a X.env) :: starEach [b, c] X.env := by rfl) (h2 : starEach [b, c] X.env = (false, eval b X.env) :: starEach [c] X.env := by rfl) (h3 : starEach [c] X.env = (false, eval c X.env) :: starEach [] X.env := by rfl) : PA X [a, b, c] (tCons ta (tCons tb (tCons tc tNil))) := pa_cons ha.pe (pa_cons hb.pe (pa_cons hc.pe pa_nil h3) h2) h1
theorem ds_set2 (i j : Nat) (hc : X.calm = true) (hN : X.N.Nodup) (ha : DQ X a ta qa) (hb : DQ X b tb qb) (hi : X.N[i]? = some x := by rfl) (hj : X.N[j]? = some y := by rfl) (hij : i ≠ j := by decide)
    (hx : X.env.scope.names.lookup x = some .local := by rfl) (hy : X.env.scope.names.lookup y = some .local := by rfl)
    (hw : swappedStores [.Tuple [.Name x px, .Name y py] kt pt] (.Tuple [a, b] k2 pt2) X.env = pure (some [x, y]) := by rfl)
    (hs : swapsWithSole [.Tuple [.Name x px, .Name y py] kt pt] (.Tuple [a, b] k2 pt2) pos.line X.env = pure false := by rfl) (h1 : starEach [a, b] X.env = (false, eval a X.env) :: starEach [b] X.env := by rfl) (h2 : starEach [b] X.env = (false, eval b X.env) :: starEach [] X.env := by rfl) :
    DS X (.Assign [.Tuple [.Name x px, .Name y py] kt pt] (.Tuple [a, b] k2 pt2) pos) (tPar i j (tCons ta (tCons tb tNil))) (qPar qa qb i j) := ds_par ha hb (ps_par hc hN hi hj hij hx hy (da_two ha hb h1 h2) hw hs)
theorem ds_set2O (i j : Nat) (hc : X.calm = true) (hN : X.N.Nodup) (ha : DQ X a ta qa) (hb : DQ X b tb qb) (hi : X.N[i]? = some x := by rfl) (hj : X.N[j]? = some y := by rfl) (hij : i ≠ j := by decide)
    (hx : X.env.scope.names.lookup x = some .local := by rfl) (hy : X.env.scope.names.lookup y = some .local := by rfl)
    (hw : swappedStores [.Tuple [.Name x px, .Name y py] kt pt] (.Tuple [a, b] k2 pt2) X.env = pure (some [x, y]) := by rfl)
    (hs : swapsWithSole [.Tuple [.Name x px, .Name y py] kt pt] (.Tuple [a, b] k2 pt2) pos.line X.env = pure false := by rfl) (h1 : starEach [a, b] X.env = (false, eval a X.env) :: starEach [b] X.env := by rfl) (h2 : starEach [b] X.env = (false, eval b X.env) :: starEach [] X.env := by rfl) :
    DS X (.Assign [.Tuple [.Name x px, .Name y py] kt pt] (.Tuple [a, b] k2 pt2) pos) (tPar i j (tCons ta (tCons tb tNil))) (qParO qa qb i j) := ds_parO hij ha hb (ps_par hc hN hi hj hij hx hy (da_two ha hb h1 h2) hw hs)
theorem ds_set3 (i j l : Nat) (hc : X.calm = true) (hN : X.N.Nodup) (ha : DQ X a ta qa) (hb : DQ X b tb qb) (hd : DQ X c tc qc) (hi : X.N[i]? = some x := by rfl) (hj : X.N[j]? = some y := by rfl) (hl : X.N[l]? = some z := by rfl) (hij : i ≠ j := by decide) (hil : i ≠ l := by decide) (hjl : j ≠ l := by decide)
    (hx : X.env.scope.names.lookup x = some .local := by rfl) (hy : X.env.scope.names.lookup y = some .local := by rfl) (hz : X.env.scope.names.lookup z = some .local := by rfl)
    (hw : swappedStores [.Tuple [.Name x px, .Name y py, .Name z pz] kt pt] (.Tuple [a, b, c] k2 pt2) X.env = pure (some [x, y, z]) := by rfl)
    (hs : swapsWithSole [.Tuple [.Name x px, .Name y py, .Name z pz] kt pt] (.Tuple [a, b, c] k2 pt2) pos.line X.env = pure false := by rfl) (h1 : starEach [a, b, c] X.env = (false, eval a X.env) :: starEach [b, c] X.env := by rfl) (h2 : starEach [b, c] X.env = (false, eval b X.env) :: starEach [c] X.env := by rfl) (h3 : starEach [c] X.env = (false, eval c X.env) :: starEach [] X.env := by rfl) :
    DS X (.Assign [.Tuple [.Name x px, .Name y py, .Name z pz] kt pt] (.Tuple [a, b, c] k2 pt2) pos) (tPar3 i j l (tCons ta (tCons tb (tCons tc tNil)))) (qPar3 qa qb qc i j l) := ds_par3 ha hb hd (ps_par3 hc hN hi hj hl hij hil hjl hx hy hz (da_three ha hb hd h1 h2 h3) hw hs)
theorem ds_set3O (i j l : Nat) (hc : X.calm = true) (hN : X.N.Nodup) (ha : DQ X a ta qa) (hb : DQ X b tb qb) (hd : DQ X c tc qc) (hi : X.N[i]? = some x := by rfl) (hj : X.N[j]? = some y := by rfl) (hl : X.N[l]? = some z := by rfl) (hij : i ≠ j := by decide) (hil : i ≠ l := by decide) (hjl : j ≠ l := by decide)
    (hx : X.env.scope.names.lookup x = some .local := by rfl) (hy : X.env.scope.names.lookup y = some .local := by rfl) (hz : X.env.scope.names.lookup z = some .local := by rfl)
    (hw : swappedStores [.Tuple [.Name x px, .Name y py, .Name z pz] kt pt] (.Tuple [a, b, c] k2 pt2) X.env = pure (some [x, y, z]) := by rfl)
    (hs : swapsWithSole [.Tuple [.Name x px, .Name y py, .Name z pz] kt pt] (.Tuple [a, b, c] k2 pt2) pos.line X.env = pure false := by rfl) (h1 : starEach [a, b, c] X.env = (false, eval a X.env) :: starEach [b, c] X.env := by rfl) (h2 : starEach [b, c] X.env = (false, eval b X.env) :: starEach [c] X.env := by rfl) (h3 : starEach [c] X.env = (false, eval c X.env) :: starEach [] X.env := by rfl) :
    DS X (.Assign [.Tuple [.Name x px, .Name y py, .Name z pz] kt pt] (.Tuple [a, b, c] k2 pt2) pos) (tPar3 i j l (tCons ta (tCons tb (tCons tc tNil)))) (qPar3O qa qb qc i j l) := ds_par3O hil hjl ha hb hd (ps_par3 hc hN hi hj hl hij hil hjl hx hy hz (da_three ha hb hd h1 h2 h3) hw hs)
/-! ### x.append(e), x[k] = e -/
def qApN (i : Nat) (qe : QE) : QS := fun D ρ => (ownOf ρ[i]?).isSome = true ∧ qApp i qe D ρ
theorem ds_apN (i : Nat) {apos cpos : Pos} (hv : PE X (.Name x p1) (tVar i)) (h : DQ X e te qe) (hbase : attributeBase (.Name x p1) "append" X.env (eval (.Name x p1) X.env) = eval (.Name x p1) X.env := by rfl)
    (hfew : ((backTo cpos (starEach [e] X.env)).all (fun x => !x.1) && (backToKw cpos (keywordEach [] X.env)).all (fun x => x.1.isSome)
      && decide ([e].length + ([] : List Keyword).length + (if ([] : List Keyword).isEmpty then 0 else 1) < 30)) = true := by rfl)
    (hline : (apos.endLine == cpos.line) = true := by rfl) (hs : starEach [e] X.env = (false, eval e X.env) :: starEach [] X.env := by rfl) (hplain : (backTo cpos (starEach [] X.env)).any (·.1) = false := by rfl)
    (hsw : swapsWith (.Call (.Attribute (.Name x p1) "append" apos) [e] [] cpos) none pos.line X.env = pure false := by rfl) :
    DS X (.Expr (.Call (.Attribute (.Name x p1) "append" apos) [e] [] cpos) pos) (tDrop (tBM X.K "list" rAppend (tVar i) (tCons te tNil))) (qApN i qe) := by
  have hp : PS X (.Expr (.Call (.Attribute (.Name x p1) "append" apos) [e] [] cpos) pos) (tDrop (tBM X.K "list" rAppend (tVar i) (tCons te tNil))) := ps_expr (pe_bm PySem.F.plainAttrs_list PySem.F.slot_list_append PySem.F.type_list_append mt_append hv (pa_cons h.pe pa_nil hs) hbase hfew hline hs hplain) hsw
  refine ⟨hp, fun F hF ρ D ⟨h0, hq⟩ S σ H E D' k1 k2 k3 k4 => ?_⟩
  obtain ⟨xs0, h0⟩ := Option.isSome_iff_exists.mp h0
  obtain ⟨a, vs0, s0, s1, s2, s3⟩ := own_at E h0
  refine ⟨.ref a, s1, .inl ⟨rfl, _, .inl (.inl s2)⟩, ?_⟩
  refine h.sim F hF ρ _ hq S σ H E _ fun r v H1 ρ1 E1 e1 r1 ⟨xs, g1, g2, hq1⟩ => ?_
  obtain ⟨b, vs, t0, t1, t2, t3⟩ := own_at E1 g1
  rw [s0] at t0; cases t0
  refine ⟨a, vs, v, rfl, rfl, t2, by rw [t3.len]; exact g2, ?_⟩
  obtain ⟨E2, G2⟩ := E1.chg g1 s0 (t3.append (RpL.one (r1.rp E)))
  exact k1 S σ _ _ E2 ((e1.trans G2).same) hq1
def qStN (i : Nat) (qk qe : QE) : QS := fun D ρ => qe ρ fun s ρ1 => (ownOf ρ1[i]?).isSome = true ∧ qk ρ1 fun s2 ρ2 => ∃ xs k j, ownOf ρ2[i]? = some xs ∧ s2.dat = .int k ∧ ixN xs.length k = some j ∧ D.nx (setOwn ρ2 i (xs.set j s.dat))
theorem ds_stN (i : Nat) {tk : TE} {qk : QE} (hv : PE X (.Name x p1) (tVar i)) (h : DQ X e te qe) (hk : DQ X b tk qk)
    (ha : ∀ v, assign (.Subscript (.Name x p1) b p2) X.env v = (do
      let ov ← holding [v] (eval (.Name x p1) X.env)
      let iv ← holding [v, ov] (eval b X.env)
      standAt p2
      holding [v, ov, iv] (setItem ov iv v)
      release [v, ov, iv] []) := by intro _; rfl)
    (hs : swapsWithSole [.Subscript (.Name x p1) b p2] e pos.line X.env = pure false := by rfl) (hw : swappedStores [.Subscript (.Name x p1) b p2] e X.env = pure none := by rfl)
    (h1 : (assignEach [.Subscript (.Name x p1) b p2] X.env).map (·.2) = [assign (.Subscript (.Name x p1) b p2) X.env] := by rfl) :
    DS X (.Assign [.Subscript (.Name x p1) b p2] e pos) (tAsg te (gSub (tVar i) tk rSetL)) (qStN i qk qe) := by
  have hp := ps_asg (pos := pos) h.pe (pg_sub hv hk.pe set_list ha) hs hw h1
  refine ⟨hp, fun F hF ρ D hq S σ H E D' k1 k2 k3 k4 => ?_⟩
  refine h.sim F hF ρ _ hq S σ H E _ fun r v H1 ρ1 E1 e1 r1 ⟨h0, hq1⟩ => ?_
  obtain ⟨xs0, h0⟩ := Option.isSome_iff_exists.mp h0
  obtain ⟨a, vs0, s0, s1, s2, s3⟩ := own_at E1 h0
  refine ⟨.ref a, s1, ?_⟩
  refine hk.sim F hF ρ1 _ hq1 S σ H1 E1 _ fun r' v' H2 ρ2 E2 e2 r2 ⟨xs, k, j, g1, g2, g3, hq2⟩ => ?_
  obtain ⟨b, vs, t0, t1, t2, t3⟩ := own_at E2 g1
  rw [s0] at t0; cases t0
  have rv := r2.rp E1
  rw [g2] at rv
  refine ⟨a, vs, k, j, rfl, rp_int.mp rv, t2, by rw [t3.len]; exact g3, ?_⟩
  obtain ⟨E3, G3⟩ := E2.chg g1 s0 (t3.set j ((r1.rp E).mono e2.same))
  exact k1 S σ _ _ E3 ((e1.trans (e2.trans G3)).same) hq2
end
end DL
set_option Elab.async false
set_option linter.all false
set_option maxRecDepth 100000
set_option autoImplicit false
/-! DL7: names for the printed q-terms, module constants, defs from the head. -/
namespace DL
open PySem PySem.Spec PyProof.Rows L2
open C8 (Cal)
abbrev kNeg : PyData → (SD → Prop) → Prop := fun d Q => ∃ i, d = .int i ∧ Q (.dt (.int (-i)))
abbrev kSub := kI0 fun i j => i - j
abbrev kFdiv := kI CDivW fun i j => i / j
abbrev kMod := kI (fun _ j => 0 < j) fun i j => i % j
abbrev kPow := kI CPowW fun i j => i ^ j.toNat
abbrev kLt := kB0 fun i j => decide (i < j)
abbrev kLe := kB0 fun i j => decide (i ≤ j)
abbrev kGt := kB0 fun i j => decide (j < i)
abbrev kGe := kB0 fun i j => decide (j ≤ i)
abbrev rSubI : R2 := rI0 fun i j => .int (i - j)
abbrev rFdiv : R2 := rI CDivW fun i j => .int (i / j)
abbrev rMod : R2 := rI (fun _ j => 0 < j) fun i j => .int (i % j)
abbrev rPow : R2 := rI CPowW fun i j => .int (i ^ j.toNat)
abbrev rSplit : V → List V → Hp → VK → Prop := fun x xs H Q => ∃ a b, x = .str a ∧ xs = [.str b] ∧ (b.length == 0) = false ∧ a.length + 2 ≤ sizeLine ∧ rNewStrs (Txt.split a b) H Q
abbrev rJoin (K : PySem.W.Frag) : V → List V → Hp → VK → Prop := fun x xs H Q => ∃ a p, ∃ ys : List Str, x = .str a ∧ xs = [.ref p] ∧ (SqL K H p (ys.map V.str) ∨ SqT K H p (ys.map V.str)) ∧
      (ys.map (·.length)).sum + ys.length * a.length ≤ 16777216 ∧ Q (.str (Txt.join a ys)) H
theorem units65 {k : Nat} {A : Around} (r : Room k A) : A.units + 65 < cLine := by have := r.un; omega
/-- a module's constant -/
def GlD (K : PySem.W.Frag) (mg : Str → Option Value) (x : Str) (d : PyData) : Prop := ∃ u v, mg x = some u ∧ RelV v u ∧ ∀ H, Rp K H d v
/-- its value, chosen -/
theorem pe_gV {X : Cx} {x : Str} {d : PyData} {pos : Pos} (g : GlD X.K X.mg x d) (hg : Gl X x) (hd : (x == ("__debug__" : Str)) = false := by decide) : PE X (.Name x pos) (tC g.choose_spec.choose) := pe_glob hg g.choose_spec.choose_spec.1 g.choose_spec.choose_spec.2.1 hd
theorem dq_gD {X : Cx} {x : Str} {d : PyData} {pos : Pos} (g : GlD X.K X.mg x d) (hg : Gl X x) (hd : (x == ("__debug__" : Str)) = false := by decide) : DQ X (.Name x pos) (tC g.choose_spec.choose) (qC d) :=
  dq_glob hg g.choose_spec.choose_spec.1 g.choose_spec.choose_spec.2.1 (fun H => g.choose_spec.choose_spec.2.2 H) hd
/-- a def of the head, its body walked, its promise kept -/
theorem cal_dl {P : Program} {w : World} {K : PySem.W.Frag} {mg : Str → Option Value} {base : Heap} {x : Str} {st : Stmt} {f : Addr} {fd : FuncData} {kws : List (Str × V)} {N ps : List Str} {k : Nat} {d : DSp} {q : QS}
    (F : FunD K x x (defArgs st) (defBody st) (defScope st) [] kws f fd) (hf : mg x = some (.ref f)) (S : FnScope N ps (defScope st)) (n : Nat) (hn : ps.length = n)
    (hb : ∀ (kV doc pm : Value) (an : Option Addr) (cdv ct : Value) (us : List Value), us.length = ps.length → bindArgs (PySem.W.fnOf x x (defArgs st) (defBody st) (defScope st) .none kV doc pm an cdv ct) ⟨us, []⟩ = pure (ps.zip us))
    (hder : ∀ (cdv : Value) (A : Around) (outer : List Env) (s : Shared) (H : Hp) (E : XK), Room k (A.deeper (envOfC x (defScope st) s.heap.objs.size f cdv)) → ∃ t, DSs (cxOf CX0 P w K mg base N x (defScope st) f cdv A outer s H E).nox (defBody st) t q)
    (pure_ : ∀ as R, d as R → as.length = n ∧ q { nx := fun ρ => R (.dt .none) (pwOf ρ), rt := fun r ρ => R r (pwOf ρ) } (as ++ List.replicate (N.length - n) .un)) : Cal P w K mg base (k + 1) x (toSp K d) [] := by
  subst hn
  have F' := He5.fun_of F
  refine ⟨f, fd, ps, [], fun_dl F' S (fun as R h => (pure_ as R h).1) fun cdv A outer s H E hr => ?_, hf, F.kp, F'.binds hb, .nil⟩
  obtain ⟨t, D⟩ := hder cdv A outer s H E hr
  exact ⟨t, q, D, fun as R h => (pure_ as R h).2⟩
/-! ### a tuple's items, one by one -/
def mTup (d : PyData) (f : List PyData → Prop) : Prop := match d with | .tuple k => f k | _ => False
theorem mTup_t {k : List PyData} {f : List PyData → Prop} : mTup (.tuple k) f = f k := rfl
def qIT (qe : QE) : QI := fun ρ R => qe ρ fun s ρ1 => mTup s.dat fun ds => R ds ρ1
theorem di_tup {X : Cx} {tg e : Expr} {te : TE} {qe : QE} (h : DQ X e te qe) : DI X tg e (iTup X.K te) (qIT qe) := by
  refine ⟨pi_tup h.pe, fun F hF ρ R hq S σ H E R' k => ?_⟩
  refine h.sim F hF ρ _ hq S σ H E _ fun s v H1 ρ1 E1 e1 r1 hq1 => ?_
  have rv := r1.rp E
  cases hd : s.dat with
  | tuple ds =>
    rw [hd] at rv
    have hq2 : R ds ρ1 := by
      have z : mTup s.dat fun ds => R ds ρ1 := hq1
      rw [hd] at z; exact z
    obtain ⟨a, vs, rfl, ha, ra⟩ := rp_tup.mp rv
    refine ⟨a, rfl, ⟨vs, hF ▸ sqt_mono hide_le ha⟩, ?_⟩
    rw [← hF]
    refine k _ ds H1 ρ1 E1 e1 ?_ hq2
    intro S' σ' H2 ρ' E' e' i
    have ha2 : SqT F.K H2 a vs := sqt_mono hide_le (sqt_mono e' ha)
    refine ⟨fun d hd => ?_, fun hl => ⟨vs, ha2, by rw [ra.len]; exact hl⟩⟩
    obtain ⟨v, hv, rv⟩ := ra.get hd
    refine ⟨⟨vs, v, ha2, hv⟩, fun x H' ⟨h1, h2⟩ => ?_⟩
    subst h1
    have := h2 vs ha2
    rw [hv] at this
    cases this
    exact ⟨Same.refl _, rv.mono e'⟩
  | none => have z : mTup s.dat fun ds => R ds ρ1 := hq1
            rw [hd] at z; exact z.elim
  | bool _ => have z : mTup s.dat fun ds => R ds ρ1 := hq1
              rw [hd] at z; exact z.elim
  | int _ => have z : mTup s.dat fun ds => R ds ρ1 := hq1
             rw [hd] at z; exact z.elim
  | str _ => have z : mTup s.dat fun ds => R ds ρ1 := hq1
             rw [hd] at z; exact z.elim
  | list _ => have z : mTup s.dat fun ds => R ds ρ1 := hq1
              rw [hd] at z; exact z.elim
  | dict _ => have z : mTup s.dat fun ds => R ds ρ1 := hq1
              rw [hd] at z; exact z.elim
end DL
set_option Elab.async false
set_option linter.all false
set_option maxRecDepth 100000
set_option autoImplicit false
/-! DL8: lemmas for the plain part: what q-terms say. -/
namespace DL
open PySem PySem.Spec PyProof.Rows L2
/-- what a def hands back, whatever the caller asks of the changed list -/
def ret (d : PyData) (R : SD → List PyData → Prop) : Prop := ∀ ys, R (.dt d) ys
theorem ret.at {d d' : PyData} {R : SD → List PyData → Prop} {ys : List PyData} (h : ret d R) (e : d' = d) : R (.dt d') ys := e ▸ h ys
/-- one of them is equal to d -/
def anyEq (xs : List PyData) (d : PyData) : Bool := xs.any fun z => PyData.eqv z d
/-- a text's signs -/
def codes (x : Str) : List Nat := x.cps.toList
section
variable {Q : Bool → Prop} {xs ys : List PyData} {x y : Str}
theorem eqq_ii {i j : Int} : eqq (.int i) (.int j) Q = Q (decide (i = j)) := rfl
theorem eqq_ss : eqq (.str x) (.str y) Q = Q (decide (x = y)) := rfl
theorem eqq_ll : eqq (.list xs) (.list ys) Q = (SeqAt.shaped (.list xs) = true ∧ SeqAt.shaped (.list ys) = true ∧ Q (PyData.eqv (.list xs) (.list ys))) := rfl
theorem eqq_tt : eqq (.tuple xs) (.tuple ys) Q = (SeqAt.shaped (.tuple xs) = true ∧ SeqAt.shaped (.tuple ys) = true ∧ Q (PyData.eqv (.tuple xs) (.tuple ys))) := rfl
theorem inn_l {d : PyData} : inn d (.list xs) Q = (SeqAt.shaped d = true ∧ SeqAt.shaped (.list xs) = true ∧ Q (anyEq xs d)) := rfl
theorem inn_s {d : PyData} : inn d (.str x) Q = ∃ c, d = .str ⟨#[c]⟩ ∧ Q (decide (c ∈ codes x)) := rfl
end
section
variable {Q : SD → Prop} {xs : List PyData} {x : Str} {i : Int} {lo hi : Option Int}
theorem ixq_l : ixq (.list xs) (.int i) Q = ∃ z, atI xs i = some z ∧ Q (.dt z) := rfl
theorem ixq_t : ixq (.tuple xs) (.int i) Q = ∃ z, atI xs i = some z ∧ Q (.dt z) := rfl
theorem ixq_s : ixq (.str x) (.int i) Q = (x.length ≤ sizeLine ∧ ∃ c, atI (codes x) i = some c ∧ Q (.dt (.str ⟨#[c]⟩))) := rfl
theorem slq_l : slq (.list xs) lo hi Q = Q (.ow (DL.cutD xs lo hi)) := rfl
theorem slq_s : slq (.str x) lo hi Q = (x.length ≤ sizeLine ∧ Q (.dt (.str (cutS x lo hi)))) := rfl
end
def allB (bs : List Bool) : Bool := bs.all id
def anyB (bs : List Bool) : Bool := bs.any id
theorem allB_map {α : Type} (f : α → Bool) (l : List α) : allB (l.map f) = l.all f := by unfold allB; rw [List.all_map]; rfl
theorem anyB_map {α : Type} (f : α → Bool) (l : List α) : anyB (l.map f) = l.any f := by unfold anyB; rw [List.any_map]; rfl
theorem kAll_ {ds : List PyData} {Q : SD → Prop} : kAll ds Q = ∃ bs : List Bool, ds = [.list (bs.map .bool)] ∧ Q (.dt (.bool (allB bs))) := rfl
theorem kAny_ {ds : List PyData} {Q : SD → Prop} : kAny ds Q = ∃ bs : List Bool, ds = [.list (bs.map .bool)] ∧ Q (.dt (.bool (anyB bs))) := rfl
theorem shaped_nil : SeqAt.shaped (.list []) = true := by decide
theorem eqv_nil {xs : List PyData} : PyData.eqv (.list xs) (.list []) = xs.isEmpty := by cases xs <;> simp [PyData.eqv, PyData.eqvAll]
theorem eqv_fr {a b c d : Int} : PyData.eqv (.tuple [.int a, .int b]) (.tuple [.int c, .int d]) = decide (a = c ∧ b = d) := by
  simp [PyData.eqv, PyData.eqvAll]
  by_cases h1 : a = c <;> by_cases h2 : b = d <;> simp [h1, h2]
theorem shaped_fr {a b : Int} : SeqAt.shaped (.tuple [.int a, .int b]) = true := by simp [SeqAt.shaped, PyData.canLay0, PyData.canLayAll0, PyData.depth, PyData.depthAll]
theorem eqv_none {d : PyData} : PyData.eqv d .none = isN d := by cases d <;> simp [PyData.eqv, isN]
/-! ### shaped data: every part so deep at most -/
def shq (n : Nat) (d : PyData) : Prop := d.canLay0 = true ∧ d.depth ≤ n
theorem shq_list {n : Nat} {xs : List PyData} (h : ∀ x ∈ xs, shq n x) : shq (n + 1) (.list xs) := by
  have : ∀ ys : List PyData, (∀ x ∈ ys, shq n x) → PyData.canLayAll0 ys = true ∧ PyData.depthAll ys ≤ n := by
    intro ys
    induction ys with
    | nil => intro _; exact ⟨by simp [PyData.canLayAll0], by simp [PyData.depthAll]⟩
    | cons y ys ih =>
      intro hy
      obtain ⟨h1, h2⟩ := ih fun x hx => hy x (List.mem_cons_of_mem _ hx)
      obtain ⟨h3, h4⟩ := hy y List.mem_cons_self
      exact ⟨by simp [PyData.canLayAll0, h1, h3], by simp [PyData.depthAll]; omega⟩
  obtain ⟨h1, h2⟩ := this xs h
  exact ⟨by simp [PyData.canLay0, h1], by simp [PyData.depth]; omega⟩
theorem shq_tuple {n : Nat} {xs : List PyData} (h : ∀ x ∈ xs, shq n x) : shq (n + 1) (.tuple xs) := by
  obtain ⟨h1, h2⟩ := shq_list h
  exact ⟨by simpa [PyData.canLay0] using h1, by simpa [PyData.depth] using h2⟩
theorem shq.up {n m : Nat} {d : PyData} (h : shq n d) (k : n ≤ m) : shq m d := ⟨h.1, Nat.le_trans h.2 k⟩
theorem shq.ok {n : Nat} {d : PyData} (h : shq n d) (k : n ≤ 64 := by decide) : SeqAt.shaped d = true := by
  unfold SeqAt.shaped
  rw [h.1, Bool.true_and]
  exact decide_eq_true (Nat.le_trans h.2 k)
theorem shq_int {n : Nat} {i : Int} : shq n (.int i) := ⟨by simp [PyData.canLay0], by simp [PyData.depth]⟩
theorem shq_none {n : Nat} : shq n .none := ⟨by simp [PyData.canLay0], by simp [PyData.depth]⟩
theorem shq_bool {n : Nat} {i : Bool} : shq n (.bool i) := ⟨by simp [PyData.canLay0], by simp [PyData.depth]⟩
theorem shq_str {n : Nat} {i : Str} (h : PyData.canLay0 (.str i) = true) : shq n (.str i) := ⟨h, by simp [PyData.depth]⟩
/-! ### a comprehension that changes nothing but its own name -/
theorem lc_n {qt : QT} {qe : QE} {i : Nat} {xs : List PyData} {ρ : List SD} {Q : SD → List SD → Prop} (hf : freeV ρ [i] = true) (hz : xs.length ≤ sizeLine) (ok : okP (wipeR ρ [i])[i]? = true) (f : PyData → Option PyData)
    (h : ∀ d ∈ xs, ∀ (Y : PyData → Prop) (N : Prop), (∀ z, f d = some z → Y z) → (f d = none → N) → qt ((wipeR ρ [i]).set i (.dt d)) fun b ρ4 => if b = true then qe ρ4 fun s ρ5 => Y s.dat ∧ wipeR ρ5 [i] = wipeR ρ [i] else N ∧ wipeR ρ4 [i] = wipeR ρ [i])
    (hQ : Q (.ow (xs.filterMap f)) ρ) : LcG (qgN i) qt qe [i] xs ρ Q := by
  refine ⟨hf, hz, fun i' acc ρ2 => acc = (xs.take i').filterMap f ∧ ρ2 = wipeR ρ [i], ⟨by simp, rfl⟩, ?_, ?_⟩
  · rintro n acc ρ2 d hd ⟨rfl, rfl⟩
    have ht : xs.take (n + 1) = xs.take n ++ [d] := by rw [List.take_add_one, hd]; rfl
    refine ⟨ok, h d (List.mem_of_getElem? hd) (fun z => (xs.take n).filterMap f ++ [z] = (xs.take (n + 1)).filterMap f) ((xs.take n).filterMap f = (xs.take (n + 1)).filterMap f) (fun z hz => ?_) fun hn => ?_⟩
    · rw [ht, List.filterMap_append]; simp [hz]
    · rw [ht, List.filterMap_append]; simp [hn]
  · rintro acc ρ2 ⟨rfl, rfl⟩
    rw [unwipe_wipe, List.take_length]
    exact hQ
/-- .. every item taken -/
theorem lc_map {qe : QE} {i : Nat} {xs : List PyData} {ρ : List SD} {Q : SD → List SD → Prop} (hf : freeV ρ [i] = true) (hz : xs.length ≤ sizeLine) (ok : okP (wipeR ρ [i])[i]? = true) (f : PyData → PyData)
    (h : ∀ d ∈ xs, ∀ (Y : PyData → Prop), Y (f d) → qe ((wipeR ρ [i]).set i (.dt d)) fun s ρ5 => Y s.dat ∧ wipeR ρ5 [i] = wipeR ρ [i])
    (hQ : Q (.ow (xs.map f)) ρ) : LcG (qgN i) qYes qe [i] xs ρ Q :=
  lc_n hf hz ok (fun d => some (f d)) (fun d hd Y N hY _ => h d hd Y (hY _ rfl)) (by rw [show (xs.filterMap fun d => some (f d)) = xs.map f by rw [← List.filterMap_eq_map]; rfl]; exact hQ)
/-- .. those that pass, as they are -/
theorem lc_filter {qt : QT} {i : Nat} {xs : List PyData} {ρ : List SD} {Q : SD → List SD → Prop} {qe : QE} (hf : freeV ρ [i] = true) (hz : xs.length ≤ sizeLine) (ok : okP (wipeR ρ [i])[i]? = true) (p : PyData → Bool) (g : PyData → PyData)
    (h : ∀ d ∈ xs, ∀ (Y : PyData → Prop) (N : Prop), (p d = true → Y (g d)) → (p d = false → N) → qt ((wipeR ρ [i]).set i (.dt d)) fun b ρ4 => if b = true then qe ρ4 fun s ρ5 => Y s.dat ∧ wipeR ρ5 [i] = wipeR ρ [i] else N ∧ wipeR ρ4 [i] = wipeR ρ [i])
    (hQ : Q (.ow ((xs.filter p).map g)) ρ) : LcG (qgN i) qt qe [i] xs ρ Q :=
  lc_n hf hz ok (fun d => if p d = true then some (g d) else none) (fun d hd Y N hY hN => h d hd Y N (fun hp => hY _ (by rw [if_pos hp])) (fun hp => hN (by rw [if_neg (by rw [hp]; exact Bool.false_ne_true)])))
    (by
      have : ∀ ys : List PyData, (ys.filterMap fun d => if p d = true then some (g d) else none) = (ys.filter p).map g := by
        intro ys
        induction ys with
        | nil => rfl
        | cons y ys ih => by_cases hp : p y = true <;> simp [List.filterMap_cons, List.filter_cons, hp, ih]
      rw [this]; exact hQ)
/-! ### numbers in reach -/
theorem cmul {i j : Int} (h1 : i.natAbs < 2 ^ 4000) (h2 : j.natAbs < 2 ^ 4000) : CMulW i j := wide_mul h1 h2 (by decide) (by decide) (by decide)
theorem cdiv {i j : Int} (h : 0 < j) (h1 : j.natAbs < 2 ^ 4000) : CDivW i j := wide_div h h1 (by decide) (by decide)
theorem nat_lt4000 {n m : Nat} (h : n ≤ m) (hm : m < 2 ^ 4000 := by decide) : n < 2 ^ 4000 := Nat.lt_of_le_of_lt h hm
theorem log_lt {i : Int} {n : Nat} (h : i.natAbs < 2 ^ n) (hn : 0 < n := by decide) (h2 : n ≤ 1920 := by decide) : i.natAbs.log2 < 1920 := Nat.lt_of_lt_of_le (PySem.Flt.log2_lt_of hn h) h2
end DL
set_option Elab.async false
set_option linter.all false
set_option maxRecDepth 100000
set_option autoImplicit false
/-! DL9: the q-terms without «there is»: to be run by simp, not under binders. -/
namespace DL
open PySem PySem.Spec PyProof.Rows L2
section
variable {ρ : List SD} {Q : SD → List SD → Prop} {QT_ : Bool → List SD → Prop} {q : SD → Prop} {i j l : Nat} {d e : PyData} {qa qb qc qe qk : QE} {qA : QA} {D : DEnds} {dd : DSp} {ds : List PyData}
theorem qVar_ : qVar i ρ Q = (match ρ[i]? with | some (.dt d) => Q (.dt d) ρ | _ => False) := by
  unfold qVar
  refine propext ⟨fun ⟨d, h, k⟩ => by rw [h]; exact k, fun h => ?_⟩
  split at h
  · exact ⟨_, by assumption, h⟩
  · exact h.elim
theorem kI_ {C : Int → Int → Prop} {g : Int → Int → Int} : kI C g d e q = (match d, e with | .int i, .int j => C i j ∧ q (.dt (.int (g i j))) | _, _ => False) := by
  unfold kI
  refine propext ⟨fun ⟨i, j, h1, h2, k⟩ => by subst h1 h2; exact k, fun h => ?_⟩
  split at h
  · exact ⟨_, _, rfl, rfl, h⟩
  · exact h.elim
theorem kI0_ {g : Int → Int → Int} : kI0 g d e q = (match d, e with | .int i, .int j => q (.dt (.int (g i j))) | _, _ => False) := by
  unfold kI0
  refine propext ⟨fun ⟨i, j, h1, h2, k⟩ => by subst h1 h2; exact k, fun h => ?_⟩
  split at h
  · exact ⟨_, _, rfl, rfl, h⟩
  · exact h.elim
theorem kB0_ {g : Int → Int → Bool} : kB0 g d e q = (match d, e with | .int i, .int j => q (.dt (.bool (g i j))) | _, _ => False) := by
  unfold kB0
  refine propext ⟨fun ⟨i, j, h1, h2, k⟩ => by subst h1 h2; exact k, fun h => ?_⟩
  split at h
  · exact ⟨_, _, rfl, rfl, h⟩
  · exact h.elim
theorem kNeg_ : kNeg d q = (match d with | .int i => q (.dt (.int (-i))) | _ => False) := by
  unfold kNeg
  refine propext ⟨fun ⟨i, h1, k⟩ => by subst h1; exact k, fun h => ?_⟩
  split at h
  · exact ⟨_, rfl, h⟩
  · exact h.elim
def mBool (d : PyData) (f : Bool → Prop) : Prop := match d with | .bool k => f k | _ => False
theorem mBool_b {k : Bool} {f : Bool → Prop} : mBool (.bool k) f = f k := rfl
theorem mBool_eq {f : Bool → Prop} : (∃ k, d = .bool k ∧ f k) = mBool d f := by
  unfold mBool
  refine propext ⟨fun ⟨i, h1, k⟩ => by subst h1; exact k, fun h => ?_⟩
  split at h
  · exact ⟨_, rfl, h⟩
  · exact h.elim
theorem qTest_ : qTest qe ρ QT_ = qe ρ fun s ρ1 => mBool s.dat fun k => QT_ k ρ1 := by
  unfold qTest
  simp only [mBool_eq]
theorem qAndV_ : qAndV qa qb ρ Q = qa ρ fun s ρ1 => mBool s.dat fun c => if c = true then qb ρ1 Q else Q (.dt (.bool false)) ρ1 := by
  unfold qAndV
  simp only [mBool_eq]
theorem qOrV_ : qOrV qa qb ρ Q = qa ρ fun s ρ1 => mBool s.dat fun c => if c = true then Q (.dt (.bool true)) ρ1 else qb ρ1 Q := by
  unfold qOrV
  simp only [mBool_eq]
theorem qNotV_ : qNotV qa ρ Q = qa ρ fun s ρ1 => mBool s.dat fun c => Q (.dt (.bool (!c))) ρ1 := by
  unfold qNotV
  simp only [mBool_eq]
def mBoolS (r : SD) (f : Bool → Prop) : Prop := match r with | .dt (.bool k) => f k | _ => False
theorem mBoolS_b {k : Bool} {f : Bool → Prop} : mBoolS (.dt (.bool k)) f = f k := rfl
theorem mBoolS_eq {r : SD} {f : Bool → Prop} : (∃ k, r = .dt (.bool k) ∧ f k) = mBoolS r f := by
  unfold mBoolS
  refine propext ⟨fun ⟨i, h1, k⟩ => by subst h1; exact k, fun h => ?_⟩
  split at h
  · exact ⟨_, rfl, h⟩
  · exact h.elim
theorem qChain_ {k k' : PyData → PyData → (SD → Prop) → Prop} : qChain k k' qa qb qc ρ Q = qa ρ fun s ρ1 => qb ρ1 fun s' ρ2 => k s.dat s'.dat fun r => mBoolS r fun b => if b = true then qc ρ2 fun s2 ρ3 => k' s'.dat s2.dat fun r' => Q r' ρ3 else Q (.dt (.bool false)) ρ2 := by
  unfold qChain
  simp only [mBoolS_eq]
def mInt (d : PyData) (f : Int → Prop) : Prop := match d with | .int k => f k | _ => False
theorem mInt_i {k : Int} {f : Int → Prop} : mInt (.int k) f = f k := rfl
theorem mInt_eq {f : Int → Prop} : (∃ k, d = .int k ∧ f k) = mInt d f := by
  unfold mInt
  refine propext ⟨fun ⟨i, h1, k⟩ => by subst h1; exact k, fun h => ?_⟩
  split at h
  · exact ⟨_, rfl, h⟩
  · exact h.elim
def mStr (d : PyData) (f : Str → Prop) : Prop := match d with | .str k => f k | _ => False
theorem mStr_s {k : Str} {f : Str → Prop} : mStr (.str k) f = f k := rfl
theorem mStr_eq {f : Str → Prop} : (∃ k, d = .str k ∧ f k) = mStr d f := by
  unfold mStr
  refine propext ⟨fun ⟨i, h1, k⟩ => by subst h1; exact k, fun h => ?_⟩
  split at h
  · exact ⟨_, rfl, h⟩
  · exact h.elim
def mLst (d : PyData) (f : List PyData → Prop) : Prop := match d with | .list k => f k | _ => False
theorem mLst_l {k : List PyData} {f : List PyData → Prop} : mLst (.list k) f = f k := rfl
theorem mLst_eq {f : List PyData → Prop} : (∃ k, d = .list k ∧ f k) = mLst d f := by
  unfold mLst
  refine propext ⟨fun ⟨i, h1, k⟩ => by subst h1; exact k, fun h => ?_⟩
  split at h
  · exact ⟨_, rfl, h⟩
  · exact h.elim
def mOpt {α : Type} (d : Option α) (f : α → Prop) : Prop := match d with | some k => f k | none => False
theorem mOpt_s {α : Type} {k : α} {f : α → Prop} : mOpt (some k) f = f k := rfl
theorem mOpt_eq {α : Type} {o : Option α} {f : α → Prop} : (∃ k, o = some k ∧ f k) = mOpt o f := by
  unfold mOpt
  refine propext ⟨fun ⟨i, h1, k⟩ => by subst h1; exact k, fun h => ?_⟩
  split at h
  · exact ⟨_, rfl, h⟩
  · exact h.elim
def mOw (d : SD) (f : List PyData → Prop) : Prop := match d with | .ow k => f k | _ => False
theorem mOw_o {k : List PyData} {f : List PyData → Prop} : mOw (.ow k) f = f k := rfl
theorem mOw_eq {s : SD} {f : List PyData → Prop} : (∃ k, s = .ow k ∧ f k) = mOw s f := by
  unfold mOw
  refine propext ⟨fun ⟨i, h1, k⟩ => by subst h1; exact k, fun h => ?_⟩
  split at h
  · exact ⟨_, rfl, h⟩
  · exact h.elim
/-- the own list in a slot -/
def mOwn (o : Option SD) (f : List PyData → Prop) : Prop := match o with | some (.ow k) => f k | _ => False
theorem mOwn_o {k : List PyData} {f : List PyData → Prop} : mOwn (some (.ow k)) f = f k := rfl
theorem mOwn_eq {o : Option SD} {f : List PyData → Prop} : (∃ k, o = some (.ow k) ∧ f k) = mOwn o f := by
  unfold mOwn
  refine propext ⟨fun ⟨i, h1, k⟩ => by subst h1; exact k, fun h => ?_⟩
  split at h
  · exact ⟨_, rfl, h⟩
  · exact h.elim
theorem qPart_ {Q : Option Int → List SD → Prop} : qPart qe ρ Q = qe ρ fun s ρ1 => mInt s.dat fun i => Q (some i) ρ1 := by
  unfold qPart
  simp only [mInt_eq]
theorem qSplit_ : qSplit qa qe ρ Q = qa ρ fun s ρ1 => mStr s.dat fun x => qe ρ1 fun s2 ρ2 => mStr s2.dat fun y => (y.length == 0) = false ∧ x.length + 2 ≤ sizeLine ∧ Q (.ow ((Txt.split x y).map .str)) ρ2 := by
  unfold qSplit
  simp only [mStr_eq]
theorem qJoin_ : qJoin qa qe ρ Q = qa ρ fun s ρ1 => mStr s.dat fun x => qe ρ1 fun s2 ρ2 => ∃ ys : List Str, s2.dat = .list (ys.map .str) ∧ (ys.map (·.length)).sum + ys.length * x.length ≤ 16777216 ∧ Q (.dt (.str (Txt.join x ys))) ρ2 := by
  unfold qJoin
  simp only [mStr_eq]
theorem qBits_ : qBits qa ρ Q = qa ρ fun s ρ1 => mInt s.dat fun i => Q (.dt (.int (Builtin.Int.intBits i : Nat))) ρ1 := by
  unfold qBits
  simp only [mInt_eq]
theorem qRevL_ : qRevL qe ρ Q = qe ρ fun s ρ1 => mLst s.dat fun ds => Q (.ow ds.reverse) ρ1 := by
  unfold qRevL
  simp only [mLst_eq]
theorem qIsi_ {n : String} : qIsi n qe ρ Q = qe ρ fun s ρ1 => mOpt (kitB (tyD s.dat) n) fun b => Q (.dt (.bool b)) ρ1 := by
  unfold qIsi
  simp only [mOpt_eq]
theorem qIL_ {R : List PyData → List SD → Prop} : qIL qe ρ R = qe ρ fun s ρ1 => mLst s.dat fun ds => R ds ρ1 := by
  unfold qIL
  simp only [mLst_eq]
theorem qIS_ {R : List PyData → List SD → Prop} : qIS qe ρ R = qe ρ fun s ρ1 => mStr s.dat fun x => R (sgn x) ρ1 := by
  unfold qIS
  simp only [mStr_eq]
def mI1 (ds : List PyData) (f : Int → Prop) : Prop := match ds with | [.int j] => f j | _ => False
theorem mI1_i {j : Int} {f : Int → Prop} : mI1 [.int j] f = f j := rfl
theorem mI1_eq {f : Int → Prop} : (∃ j, ds = [.int j] ∧ f j) = mI1 ds f := by
  unfold mI1
  refine propext ⟨fun ⟨i, h1, k⟩ => by subst h1; exact k, fun h => ?_⟩
  split at h
  · exact ⟨_, rfl, h⟩
  · exact h.elim
def mI2 (ds : List PyData) (f : Int → Int → Prop) : Prop := match ds with | [.int i, .int j] => f i j | _ => False
theorem mI2_i {i j : Int} {f : Int → Int → Prop} : mI2 [.int i, .int j] f = f i j := rfl
theorem mI2_eq {f : Int → Int → Prop} : (∃ i j, ds = [.int i, .int j] ∧ f i j) = mI2 ds f := by
  unfold mI2
  refine propext ⟨fun ⟨i, j, h1, k⟩ => by subst h1; exact k, fun h => ?_⟩
  split at h
  · exact ⟨_, _, rfl, h⟩
  · exact h.elim
def mL1 (ds : List PyData) (f : List PyData → Prop) : Prop := match ds with | [.list j] => f j | _ => False
theorem mL1_l {j : List PyData} {f : List PyData → Prop} : mL1 [.list j] f = f j := rfl
theorem mL1_eq {f : List PyData → Prop} : (∃ j, ds = [.list j] ∧ f j) = mL1 ds f := by
  unfold mL1
  refine propext ⟨fun ⟨i, h1, k⟩ => by subst h1; exact k, fun h => ?_⟩
  split at h
  · exact ⟨_, rfl, h⟩
  · exact h.elim
theorem qR1_ {R : List PyData → List SD → Prop} : qR1 qA ρ R = qA ρ fun ds ρ1 => mI1 ds fun j => (-(2 ^ 62) ≤ j ∧ j < 2 ^ 62) ∧ R (rngD 0 j.toNat) ρ1 := by
  unfold qR1
  simp only [mI1_eq]
theorem qR2_ {R : List PyData → List SD → Prop} : qR2 qA ρ R = qA ρ fun ds ρ1 => mI2 ds fun i j => (-(2 ^ 62) ≤ i ∧ i < 2 ^ 62 ∧ -(2 ^ 62) ≤ j ∧ j < 2 ^ 62) ∧ R (rngD i (j - i).toNat) ρ1 := by
  unfold qR2
  simp only [mI2_eq]
theorem qIE_ {R : List PyData → List SD → Prop} : qIE qA ρ R = qA ρ fun ds ρ1 => mL1 ds fun xs => R (enumD xs) ρ1 := by
  unfold qIE
  simp only [mL1_eq]
theorem kAbs_ : kAbs ds q = mI1 ds fun i => q (.dt (.int (if i < 0 then -i else i))) := by
  unfold kAbs
  simp only [mI1_eq]
theorem kMax2_ : kMax2 ds q = mI2 ds fun i j => q (.dt (.int (if j > i then j else i))) := by
  unfold kMax2
  simp only [mI2_eq]
theorem kStr_ : kStr ds q = mI1 ds fun i => i.natAbs.log2 < 1920 ∧ q (.dt (.str (toString i))) := by
  unfold kStr
  simp only [mI1_eq]
theorem kLen_l {xs : List PyData} : kLen [.list xs] q = q (.dt (.int xs.length)) := by unfold kLen; simp
theorem kLen_t {xs : List PyData} : kLen [.tuple xs] q = q (.dt (.int xs.length)) := by unfold kLen; simp
theorem kLen_s {z : Str} : kLen [.str z] q = (z.length ≤ sizeLine ∧ q (.dt (.int z.length))) := by unfold kLen; simp
theorem kInt_i {i : Int} : kInt [.int i] q = q (.dt (.int i)) := by unfold kInt; simp
theorem kInt_s {a : Str} : kInt [.str a] q = (a.length ≤ 640 ∧ mOpt (PySem.intText? a) fun n => q (.dt (.int n))) := by unfold kInt; simp only [List.cons.injEq, and_true, exists_eq_left', mOpt_eq]
theorem ixq_l_ {xs : List PyData} {i : Int} : ixq (.list xs) (.int i) q = mOpt (atI xs i) fun z => q (.dt z) := mOpt_eq
theorem ixq_t_ {xs : List PyData} {i : Int} : ixq (.tuple xs) (.int i) q = mOpt (atI xs i) fun z => q (.dt z) := mOpt_eq
theorem ixq_s_ {x : Str} {i : Int} : ixq (.str x) (.int i) q = (x.length ≤ sizeLine ∧ mOpt (atI (codes x) i) fun c => q (.dt (.str ⟨#[c]⟩))) := by rw [ixq_s, mOpt_eq]
theorem qRetO_ : qRetO i D ρ = mOwn ρ[i]? fun xs => D.rt (.ow xs) ρ := mOwn_eq
theorem qAsgO_ : qAsgO qe i D ρ = qe ρ fun s ρ1 => mOw s fun xs => okSlot ρ1[i]? = true ∧ D.nx (ρ1.set i (.ow xs)) := by
  unfold qAsgO
  simp only [mOw_eq]
theorem qParO_ : qParO qa qb i j D ρ = qa ρ fun s ρ1 => qb ρ1 fun s' ρ2 => mOw s' fun xs => okSlot ρ2[j]? = true ∧ okSlot (ρ2.set j (.ow xs))[i]? = true ∧ D.nx ((ρ2.set j (.ow xs)).set i (.dt s.dat)) := by
  unfold qParO
  simp only [mOw_eq]
theorem qPar3O_ : qPar3O qa qb qc i j l D ρ = qa ρ fun s ρ1 => qb ρ1 fun s' ρ2 => qc ρ2 fun s2 ρ3 => mOw s2 fun xs => okSlot ρ3[l]? = true ∧ okSlot (ρ3.set l (.ow xs))[i]? = true ∧ okSlot ((ρ3.set l (.ow xs)).set i (.dt s.dat))[j]? = true ∧ D.nx (((ρ3.set l (.ow xs)).set i (.dt s.dat)).set j (.dt s'.dat)) := by
  unfold qPar3O
  simp only [mOw_eq]
theorem qFrz_ {qs : QS} : qFrz i qs D ρ = mOwn ρ[i]? fun xs => qs D (ρ.set i (.dt (.list xs))) := mOwn_eq
theorem qApN_ : qApN i qe D ρ = ((ownOf ρ[i]?).isSome = true ∧ qe ρ fun s ρ1 => mOpt (ownOf ρ1[i]?) fun xs => xs.length < sizeLine ∧ D.nx (setOwn ρ1 i (xs ++ [s.dat]))) := by
  unfold qApN qApp
  simp only [mOpt_eq]
theorem qStN_ : qStN i qk qe D ρ = qe ρ fun s ρ1 => (ownOf ρ1[i]?).isSome = true ∧ qk ρ1 fun s2 ρ2 => mOpt (ownOf ρ2[i]?) fun xs => mInt s2.dat fun k => mOpt (ixN xs.length k) fun j => D.nx (setOwn ρ2 i (xs.set j s.dat)) := by
  unfold qStN
  simp only [← mOpt_eq, ← mInt_eq]
  funext
  refine congrArg _ ?_
  funext s ρ1
  refine propext (and_congr Iff.rfl ?_)
  have : (fun (s2 : SD) (ρ2 : List SD) => ∃ xs k j, ownOf ρ2[i]? = some xs ∧ s2.dat = .int k ∧ ixN xs.length k = some j ∧ D.nx (setOwn ρ2 i (xs.set j s.dat))) = fun (s2 : SD) (ρ2 : List SD) => ∃ xs, ownOf ρ2[i]? = some xs ∧ ∃ k, s2.dat = .int k ∧ ∃ j, ixN xs.length k = some j ∧ D.nx (setOwn ρ2 i (xs.set j s.dat)) := by
    funext s2 ρ2
    exact propext ⟨fun ⟨xs, k, j, a, b, c, e⟩ => ⟨xs, a, k, b, j, c, e⟩, fun ⟨xs, a, k, b, j, c, e⟩ => ⟨xs, k, j, a, b, c, e⟩⟩
  rw [this]
theorem qIxO_ : qIxO i qk ρ Q = ((ownOf ρ[i]?).isSome = true ∧ qk ρ fun s ρ1 => mOpt (ownOf ρ1[i]?) fun xs => mInt s.dat fun k => mOpt (atI xs k) fun z => Q (.dt z) ρ1) := by
  unfold qIxO
  have : (fun (s : SD) (ρ1 : List SD) => ∃ xs k z, ownOf ρ1[i]? = some xs ∧ s.dat = .int k ∧ atI xs k = some z ∧ Q (.dt z) ρ1) = fun (s : SD) (ρ1 : List SD) => ∃ xs, ownOf ρ1[i]? = some xs ∧ ∃ k, s.dat = .int k ∧ ∃ j, atI xs k = some j ∧ Q (.dt j) ρ1 := by
    funext s2 ρ2
    exact propext ⟨fun ⟨xs, k, j, a, b, c, e⟩ => ⟨xs, a, k, b, j, c, e⟩, fun ⟨xs, a, k, b, j, c, e⟩ => ⟨xs, k, j, a, b, c, e⟩⟩
  rw [this]
  simp only [mOpt_eq, mInt_eq]
  rw [← mOpt_eq]
  exact propext ⟨fun ⟨ys, h, k⟩ => ⟨Option.isSome_iff_exists.mpr ⟨ys, h⟩, k⟩, fun ⟨h, k⟩ => let ⟨ys, h⟩ := Option.isSome_iff_exists.mp h; ⟨ys, h, k⟩⟩
theorem qCallO_ : qCallO i dd qA ρ Q = ((ownOf ρ[i]?).isSome = true ∧ qA ρ fun ds ρ1 => mOpt (ownOf ρ1[i]?) fun xs => dd (.pw xs :: ds.map .dt) fun r ys => Q r (setOwn ρ1 i ys)) := by
  unfold qCallO
  simp only [mOpt_eq]
theorem qgCons_ {qg : QG} {qs : List PyData → List SD → (List SD → Prop) → Prop} {R : List SD → Prop} {r : List PyData} : qgCons qg qs (d :: r) ρ R = qg d ρ fun ρ1 => qs r ρ1 R := by
  unfold qgCons
  refine propext ⟨fun ⟨a, b, h1, k⟩ => by cases h1; exact k, fun h => ⟨_, _, rfl, h⟩⟩
theorem qgT_ {n : Nat} {qs : List PyData → List SD → (List SD → Prop) → Prop} {R : List SD → Prop} : qgT n qs (.tuple ds) ρ R = (ds.length = n ∧ qs ds ρ R) := by
  unfold qgT
  refine propext ⟨fun ⟨a, h1, k⟩ => by cases h1; exact k, fun h => ⟨_, rfl, h⟩⟩
theorem dat_dt : (SD.dt d).dat = d := rfl
theorem dat_ow : (SD.ow ds).dat = .list ds := rfl
theorem dat_pw : (SD.pw ds).dat = .list ds := rfl
theorem toDt_dt : (SD.dt d).toDt = .dt d := rfl
theorem toDt_ow : (SD.ow ds).toDt = .dt (.list ds) := rfl
theorem toDt_pw : (SD.pw ds).toDt = .dt (.list ds) := rfl
theorem toDt_un : SD.un.toDt = .un := rfl
theorem okSlot_dt : okSlot (some (.dt d)) = true := rfl
theorem okSlot_ow : okSlot (some (.ow ds)) = true := rfl
theorem okSlot_un : okSlot (some .un) = true := rfl
theorem okP_dt : okP (some (.dt d)) = true := rfl
theorem okP_un : okP (some .un) = true := rfl
theorem okSlot_of {s : SD} (h : okP (some s) = true) : okSlot (some s) = true := by cases s <;> first | rfl | cases h
theorem ownOf_ow : DL.ownOf (some (.ow ds)) = some ds := rfl
theorem ownOf_pw : DL.ownOf (some (.pw ds)) = some ds := rfl
theorem isN_n : isN .none = true := rfl
theorem isN_b {k : Bool} : isN (.bool k) = false := rfl
theorem isN_i {k : Int} : isN (.int k) = false := rfl
theorem isN_s {k : Str} : isN (.str k) = false := rfl
theorem isN_l : isN (.list ds) = false := rfl
theorem isN_t : isN (.tuple ds) = false := rfl
theorem flatD_n : flatD .none = true := rfl
theorem flatD_b {k : Bool} : flatD (.bool k) = true := rfl
theorem flatD_i {k : Int} : flatD (.int k) = true := rfl
theorem flatD_s {k : Str} : flatD (.str k) = true := rfl
/-! ### a block, a test, with what lies behind them out of sight -/
theorem seq_i {q q' : QS} (P : List SD → Prop) (h : ∀ K : List SD → Prop, (∀ ρ', P ρ' → K ρ') → q { D with nx := K } ρ) (h' : ∀ ρ', P ρ' → q' D ρ') : qSeq q q' D ρ := h _ h'
theorem ifs_i {qc : QT} {q q' : QS} (P : Bool → List SD → Prop) (h : ∀ K : Bool → List SD → Prop, (∀ b ρ', P b ρ' → K b ρ') → qc ρ K) (h1 : ∀ ρ', P true ρ' → q D ρ') (h2 : ∀ ρ', P false ρ' → q' D ρ') : qIfS qc q q' D ρ :=
  h _ fun b ρ' hp => by cases b <;> simp <;> first | exact h1 _ hp | exact h2 _ hp
end
end DL
set_option Elab.async false
set_option linter.all false
set_option maxRecDepth 100000
set_option autoImplicit false
set_option maxHeartbeats 2000000
/-! EX1: an own exception over ValueError whose __init__ says super().__init__(value), then self.value = value. -/
namespace EX
open PySem PySem.Spec PyProof.Rows L2
open PySem.W (Looks InstAt KxsAt kxs_mw)
open NdefX (NScope NF CellsAt startF ncx inv_startN envF)
/-- what stands of the def __init__, at fI, of the class at D: its code, its file, its cell -/
structure IniF (P : Program) (K : PySem.W.Frag) (D fI : Addr) (qual : Str) (params : Arguments) (body : List Stmt) (scope : Scope) (fd : FuncData) : Prop where
  ex : ∃ (oc : Value) (od : Option Addr) (osl : Array (Option Value)) (dV kV doc pm : Value) (an : Option Addr) (ct : Value) (cc cda : Addr) (c1 : Value) (c2 : Option Addr) (c3 : Array (Option Value)) (vs : Array Value) (file : Str) (tf : Tok) (e1 : Value) (e2 : Option Addr) (e3 : Array (Option Value)),
    fd = PySem.W.fnX "__init__" qual params body scope [("__class__", cc)] dV kV doc pm an (.ref cda) ct ∧ K.lookup fI = some ⟨oc, od, .func fd, osl⟩ ∧ PySem.W.codeIn K (.ref cda) qual = true ∧
    K.lookup cda = some ⟨c1, c2, .fields vs, c3⟩ ∧ vs[2]? = some (.str file tf) ∧ (P.main.file == file) = true ∧ K.lookup cc = some ⟨e1, e2, .cell (some (.ref D)), e3⟩
  cls : ∃ cd, PySem.W.clsIn K D = some cd
  top : (P.main.scope.names.lookup ("super" : Str)).isSome = false
  boot : PySem.W.nsIn K PySem.cStatics "thirdparty.any" = some none
  dfl : DflV K fd.defaults [.non]
/-- what stands of an exception class at C under the one at D -/
structure ExC (K : PySem.W.Frag) (C D : Addr) : Prop where
  ox : OexC K C
  noV : PySem.W.findIn K (.ref C) "value" = some none
  sup : PySem.W.ks_superIn K C D "__init__" = some (some (.builtin "ValueError.__init__"))
  ve : PySem.W.subIn K (.ref C) (.type "ValueError") = some true
  mro : PySem.W.mroIn K C (.ref D) = some true
/-- its promise -/
def spIni (K : PySem.W.Frag) (D : Addr) : Sp := fun vs H Q _ => ∃ (a C : Addr) (y : V), vs = [.ref a, y] ∧ ExC K C D ∧ H a = some (exo a C none) ∧
  ∀ dx, H dx = none → dx ≠ a → Q .non (upd (upd H dx (exd dx [("value", y)])) a (exo a C (some dx)))
/-- the bound built-in __init__, called -/
theorem call_mw {prog : Program} {w : World} {A : Around} {E : Value → Shared → Prop} {s : Shared} {K : PySem.W.Frag} {C u x t0 : Addr} {args : List Value} {Q : Value → Shared → Prop} (T : OexC K C) (X : K.In s.heap)
    (hu : s.heap.get? u = some (kxs_mw "ValueError.__init__" x)) (he : s.heap.get? x = some ({ cls := .ref C, dict := none, data := .fields #[.ref t0, .none, .none, .none, .bool false, .none] } : Obj)) (hz : args.length ≤ sizeLine)
    (h : ∀ h' t1, (∀ b o, b ≠ x → s.heap.get? b = some o → h'.get? b = some o) → h'.get? x = some ({ cls := .ref C, dict := none, data := .fields #[.ref t1, .none, .none, .none, .bool false, .none] } : Obj) → Q .none { s with heap := h' }) :
    wpAny (model prog w) A (call (.ref u) args) Q E s := by
  obtain ⟨nm, q, N, bs, bm, sn, sub, ab, col, dd, k0, k1, k2, k3, k5, hC, hbm⟩ := T.cls
  have F1 := F.excBase_ValueError
  obtain ⟨hh, gg, dr, tk, os⟩ := s
  refine wpAny_call (codeAny_of_tree (show wpAny _ A.in1 (callAny (.ref u) ⟨args, []⟩) _ _ _ from ?_))
  unfold callAny
  refine wpAny_bind (wpAny_load hu (PySem.W.KFB.if_so rfl (wpAny_bind (PySem.W.check_bound_init F1.toExcCallFacts (X _ _ hC) he rfl (wpAny_bind (wpAny_pure (wpAny_pure ⟨PySem.plainId_quiet F1.init.plain _, codeAny_builtin F1.initEntry ?_⟩)))))))
  exact PySem.W.exc_init_tree (cls := .ref C) (t0 := t0) (dv := none) (c2 := .none) (c3 := .none) (b4 := .bool false) he hz fun h' kk e1 _ => h h' _ kk e1
/-- its text -/
abbrev iniB (p0 p1 p2 p3 p4 p5 p6 p7 p8 p9 : Pos) : List Stmt := [.Expr (.Call (.Attribute (.Call (.Name "super" p0) [] [] p1) "__init__" p2) [.Name "value" p3] [] p4) p5, .Assign [.Attribute (.Name "self" p6) "value" p7] (.Name "value" p8) p9]
abbrev iniS : Scope := { kind := .function, names := [("self", .local), ("value", .local), ("__class__", .free), ("super", .globalImplicit)], isGenerator := false, isCoroutine := false, more := [] }
theorem iniN : NScope ["self", "value", "__class__"] ["self", "value"] ["__class__"] iniS := NdefX.nscope_by (by decide +kernel)
theorem ini_ok {CX : CXT} {P : Program} {w : World} {K : PySem.W.Frag} {mg : Str → Option Value} {base : Heap} {D fI : Addr} {qual : Str} {params : Arguments} {fd : FuncData} {p0 p1 p2 p3 p4 p5 p6 p7 p8 p9 : Pos}
    (F : IniF P K D fI qual params (iniB p0 p1 p2 p3 p4 p5 p6 p7 p8 p9) iniS fd) (hmg : mg "super" = none) (har : ∃ ar : Arg, (params.posonlyargs ++ params.args).head? = some ar ∧ ar.arg = "self")
    (he : ∀ env : Env, ∃ pl : Sem Bool, eval (.Call (.Attribute (.Call (.Name "super" p0) [] [] p1) "__init__" p2) [.Name "value" p3] [] p4) env = (do
      let ov ← attributeBase (.Call (.Name "super" p0) [] [] p1) "__init__" env (eval (.Call (.Name "super" p0) [] [] p1) env)
      standAt p2.atName
      let (f, first) ← holding [ov] (getMethod ov "__init__" pl)
      callWith p4 f first (backTo p4 (starEach [.Name "value" p3] env)) [])) : FnOk P w K mg base CX 1 fI fd ["self", "value"] (spIni K D) := by
  refine ⟨fun vs H Q E ⟨a, C, y, e, _⟩ => by rw [e]; rfl, fun A outer s H args us vs Q E hr e0 hb r hsp => ?_⟩
  obtain ⟨oc, od, osl, dV, kV, doc, pm, an, ct, cc, cda, c1, c2, c3, cvs, file, tf, e1, e2, e3, rfl, lk, hcd, lcode, hfile, hpf, lcell⟩ := F.ex
  obtain ⟨ar, hh, har⟩ := har
  have S := iniN
  have hks : iniS.names.lookup ("super" : Str) = some .globalImplicit := by decide +kernel
  obtain ⟨a, C, y, rfl, T, ha, hQ⟩ := hsp
  have kin : ∀ b o, K.lookup b = some o → s.heap.get? b = some o ∧ H b = none := fun b o e => e0.bs b o (e0.mod.kin _ _ e)
  have KX : K.In s.heap := fun b o e => (kin b o e).1
  have lim : s.heap.NoLimit := e0.mod.nolimit.keeps fun b o e => (e0.bs b o e).1
  let G : NF := ⟨"__init__", qual, params, iniB p0 p1 p2 p3 p4 p5 p6 p7 p8 p9, iniS, [("__class__", cc)], cda⟩
  refine PySem.ks_codeAny_call_defAt hr.depth (KX _ _ lk) rfl lim (PySem.W.codeRec_of KX hcd) rfl hb S.nocell (fun y hy => S.par y.1 (List.of_mem_zip hy).1) (fun h₁ hns kp => ?_) S.co S.gen S.kind
  have CA : CellsAt G.cl ["__class__"] [some (.ref D)] s.heap H := by
    have key : ∀ y c, G.cl.lookup y = some c → y = "__class__" ∧ c = cc := fun y c e => by
      have e' : (match y == ("__class__" : Str) with | true => some cc | false => none) = some c := e
      cases q : (y == ("__class__" : Str)) with
      | true => rw [q] at e'; exact ⟨beq_iff_eq.mp q, (Option.some.inj e').symm⟩
      | false => rw [q] at e'; cases e'
    refine ⟨rfl, fun y c e => ?_, fun x y c h1 h2 => (key x c h1).1.trans (key y c h2).1.symm, fun i y e => ?_⟩
    · rw [(key y c e).2]
      exact ⟨(kin _ _ lcell).2, _, _, (kin _ _ lcell).1, rfl⟩
    · cases i with
      | zero =>
        have e' : "__class__" = y := by simpa using e
        subst e'
        refine ⟨cc, rfl, fun v hv => ?_⟩
        have hv' : V.ref D = v := by simpa using hv
        subst hv'
        exact ⟨.ref D, rfl, _, (kin _ _ lcell).1, rfl⟩
      | succ i => simp at e
  have I := inv_startN (CX := CX) (P := P) (w := w) (K := K) (mg := mg) (base := base) (N := ["self", "value", "__class__"]) (F := G) (f := fI) (E := E) (tk := s.toks + (["self", "value"].zip us).length) S hr.hd e0 rfl r CA hns kp
  cases r with
  | @cons _ u0 _ ur ra rw' =>
    cases rw' with
    | @cons _ u1 _ ur ry rn =>
      cases rn
      obtain rfl : u0 = Value.ref a := ra
      have KX1 : K.In h₁ := KX.keeps kp
      obtain ⟨t0, hoa⟩ := exo_at I.hok ha
      obtain ⟨cd, hD⟩ := F.cls
      obtain ⟨oD, hD1, hD2⟩ : ∃ oD, h₁.get? D = some oD ∧ oD.data = .cls cd := by
        unfold PySem.W.clsIn at hD
        split at hD
        · rename_i c d cd' sl ho
          cases hD
          exact ⟨_, KX1 _ _ ho, rfl⟩
        · cases hD
      obtain ⟨mb, hb1, hb2⟩ := I.mod.blt
      have J0 : PySem.W.InstAt h₁ a ({ cls := .ref C, dict := none, data := .fields #[.ref t0, .none, .none, .none, .bool false, .none] } : Obj) C none := ⟨hoa, rfl, rfl, trivial⟩
      obtain ⟨pl, he⟩ := he (envF G fI s.heap.objs.size)
      refine PySem.ks_wpAt_execs_cons (PySem.ks_wpAt_Expr_any (PySem.ks_wpAt_MethodCall (pl := pl) (he := he) (PySem.ks_wpAt_super_base (env := envF G fI s.heap.objs.size) hks (S.frk _ (by simp)) rfl rfl (kp _ _ (KX _ _ lk)) rfl hh rfl (kp _ _ (KX _ _ lcode)) rfl hfile hpf F.top ?_)))
      refine PySem.W.ks_loadName_global S.kind hks (Calls.loadGlobal_builtin (show _ from I.mod.glob.keeps I.bk) hmg (show _ from hb1.keeps I.bk) ((hb2 "super" (by decide)).trans PyProof.Rows.Boot.«super») ⟨rfl, ?_⟩)
      refine wpAny_loadName_free S.kind (S.frk _ (by simp)) rfl ⟨_, kp _ _ (KX _ _ lcell), rfl⟩ ?_
      rw [har]
      refine wpAny_loadName_local S.kind (S.par _ (by simp)) hns (v := .ref a) rfl ?_
      refine PySem.ks_wpAny_isType_cls hD1 hD2 ⟨rfl, ?_⟩
      refine PySem.ks_wpAny_call_super hD1 hD2 hoa rfl (fun c e => ?_) (PySem.W.looks_mroIn KX1 T.mro) (fun h2 so k2 => ?_)
      · cases e
      have J2 := I.kept (t' := s.toks + (["self", "value"].zip [Value.ref a, u1]).length) k2
      have KX2 : K.In h2 := KX1.keeps k2
      have hoa2 := k2 _ _ hoa
      have J20 : PySem.W.InstAt h2 a ({ cls := .ref C, dict := none, data := .fields #[.ref t0, .none, .none, .none, .bool false, .none] } : Obj) C none := ⟨hoa2, rfl, rfl, trivial⟩
      cases hcl : PySem.W.clsIn K C with
      | none =>
        have z := T.sup
        unfold PySem.W.ks_superIn at z
        rw [hcl] at z
        cases z
      | some cdC =>
        have z := T.sup
        unfold PySem.W.ks_superIn at z
        rw [hcl] at z
        refine PySem.W.kxs_getMethod PySem.W.kxs_ValueError so (PySem.W.looks_opaque KX2 F.boot) ((PySem.W.looks_clsIn KX2 hcl).andThen .now) rfl KX2 z (J20.type.andThen (PySem.W.looks_subIn KX2 T.ve)) (PySem.W.ks_ne KX2 J20 hcl) rfl ?_
        have J3 := J2.kept (h' := h2.push (kxs_mw "ValueError.__init__" a)) (t' := s.toks + (["self", "value"].zip [Value.ref a, u1]).length + 1) fun b u e => Heap.get?_push_of_some _ e
        have hu3 : (h2.push (kxs_mw "ValueError.__init__" a)).get? h2.objs.size = some (kxs_mw "ValueError.__init__" a) := Heap.get?_push_at rfl rfl
        have J4 := J3.pins_of (pins' := [(h2.objs.size, kxs_mw "ValueError.__init__" a)]) fun p hp => by
          obtain rfl := List.mem_singleton.mp hp
          exact ⟨hu3, J2.hok.fresh (Nat.le_refl _), Ne.symm (Nat.ne_of_lt J2.lt), J2.nofs (Nat.le_refl _), fun v z => by cases z⟩
        refine PySem.W.kxs_callWith (i := "ValueError.__init__") (x := a) rfl ?_
        refine Calls.evalArgs_plain ?_
        have pa : PA (ncx CX P w K mg base ["self", "value", "__class__"] G fI A outer s H E) [.Name "value" p3] (tCons (tVar 1) tNil) := pa_cons (pv 1) pa_nil
        refine thn (pa.run p4 _ _ _ H (fun vs H1 => vs = [y] ∧ H1 = H) J4 ⟨y, rfl, rfl, rfl⟩) fun us s1 ⟨vs, H1, I1, r1, e1, e2⟩ => ?_
        subst e1 e2
        obtain ⟨hu1, _⟩ := I1.pin (h2.objs.size, kxs_mw "ValueError.__init__" a) (List.mem_append_right _ List.mem_cons_self)
        refine ⟨hu1, ?_⟩
        obtain ⟨t1, ho1⟩ := exo_at I1.hok ha
        have hus : us.length ≤ sizeLine := by
          rw [← r1.length]
          exact (by decide : 1 ≤ sizeLine)
        refine call_mw T.ox I1.kIn hu1 ho1 hus fun h' t2 k3 hx => ?_
        have J5 := I1.write (t' := s1.toks) (x := a) (e := a) (o := exo a C none) (by rw [ha]; exact True.intro) (.inl rfl) k3 ⟨_, hx⟩ (exo_ok hx)
        have eu : upd H1 a (exo a C none) = H1 := by
          funext b
          by_cases hb : b = a
          · rw [hb, upd_same, ha]
          · rw [upd_ne hb]
        rw [eu] at J5
        have J6 := J5.pins_of (pins' := []) fun p hp => absurd hp (by simp)
        have ss : PSs (ncx CX P w K mg base ["self", "value", "__class__"] G fI A outer s H1 E) [.Assign [.Attribute (.Name "self" p6) "value" p7] (.Name "value" p8) p9] (tOst K "value" (tVar 0) (tVar 1)) := pss_one (ps_ost (pv 0) (pv 1))
        refine wpAt_of_wpAny ?_
        refine wpAny_mono (ss.run [] _ _ H1 { nx := fun _ H' => Q .non H', rt := Q } J6 ⟨y, rfl, .ref a, rfl, a, C, rfl, T.ox, T.noV, .inl ⟨ha, hQ⟩⟩) (fun fl s' hs => ?_) fun e s' hs => hs
        have fin : ∀ {σ' : L2.St} {H' : Hp} {v : V} {u : Value}, Inv (ncx CX P w K mg base ["self", "value", "__class__"] G fI A outer s H1 E) [] σ' H' s' → RelV v u → Q v H' → CE outer P w H1 s Q u s' := fun {σ' H' v u} J rv q => ⟨v, H', J.os, J.bare, J.base, J.hok, rv, q⟩
        cases fl with
        | ret u =>
          obtain ⟨v, σ', H', J, rv, q⟩ := hs
          exact fin J rv q
        | next =>
          obtain ⟨σ', H', J, q⟩ := hs
          exact fin (v := V.non) (u := Value.none) J rfl q
        | brk =>
          obtain ⟨_, _, _, q⟩ := hs
          exact q.elim
        | cont =>
          obtain ⟨_, _, _, q⟩ := hs
          exact q.elim
end EX
set_option Elab.async false
set_option linter.all false
set_option maxRecDepth 100000
set_option autoImplicit false
set_option maxHeartbeats 2000000
/-! EX2: raised, caught and kept, its value read; repr; a call by keywords alone. -/
namespace EX
open PySem PySem.Spec PyProof.Rows L2
/-- what C(e) leaves -/
theorem mkO_in {K : PySem.W.Frag} {C D : Addr} {H1 : Hp} {y : V} {Q : XK} {E : XK} (T : ExC K C D) (h : ∀ d, H1 d = none → Q (.ref C) (some d) (upd H1 d (.xd [("value", y)]))) : ∀ a, H1 a = none → spIni K D (.ref a :: ([y] ++ [])) (upd H1 a (exo a C none))
    (fun v H2 => v = .non ∧ ∃ (d : Addr) (fs : List (Str × V)), H2 a = some (exo a C (some d)) ∧ H2 d = some (exd d fs) ∧ H1 d = none ∧ Q (.ref C) (some d) (upd (del H2 a) d (.xd fs))) E := by
  intro a ha
  refine ⟨a, C, y, rfl, T, upd_same, fun dx h1 h2 => ⟨rfl, dx, [("value", y)], upd_same, ?_, ?_, ?_⟩⟩
  · rw [upd_ne h2, upd_same]
  · rw [upd_ne h2] at h1; exact h1
  · have e : upd (del (upd (upd (upd H1 a (exo a C none)) dx (exd dx [("value", y)])) a (exo a C (some dx))) a) dx (.xd [("value", y)]) = upd H1 dx (.xd [("value", y)]) := by
      funext b
      by_cases hb : b = dx
      · rw [hb, upd_same, upd_same]
      · rw [upd_ne hb, upd_ne hb]
        by_cases hc : b = a
        · rw [hc, del_same, ha]
        · rw [del_ne hc, upd_ne hc, upd_ne hb, upd_ne hc]
    rw [e]
    refine h dx ?_
    rw [upd_ne h2] at h1; exact h1
/-! ### repr -/
/-- v shows as d -/
def ShV (K : PySem.W.Frag) (H : Hp) (v : V) (d : PyData) : Prop := (Dp K H v d ∧ d.hasDict = false) ∨ ∃ a, v = .ref a ∧ H a = some (.dK []) ∧ d = .dict []
def rRepr (K : PySem.W.Frag) : List V → Hp → VK → Prop := fun xs H Q => ∃ v d, xs = [v] ∧ ShV K H v d ∧ d.showable = true ∧ d.depth ≤ 60 ∧ d.shown.length ≤ sizeLine ∧ Q (.str d.shown) H
theorem call_repr {X : Cx} (hg : X.A.guards = some []) (hu : X.A.units + 100 < cLine) : CallR X (.builtin "repr") (rRepr X.K) := by
  intro pins s σ H xs us Q I r h
  obtain ⟨v, d, rfl, hv, hs, hd, hz, q⟩ := h
  obtain ⟨u, rfl, ru⟩ := vals1 r
  have fin : ∀ (h' : Heap) (u' : Tok) (tk : Nat), (∀ b o, s.heap.get? b = some o → h'.get? b = some o) → EP X pins σ Q (.str d.shown u') { s with heap := h', toks := tk } := fun h' u' tk k => ⟨.str d.shown, H, I.kept k, ⟨_, rfl⟩, q⟩
  rcases hv with ⟨hv, hn⟩ | ⟨a, rfl, ha, rfl⟩
  · obtain ⟨as, rd⟩ := Dp.reads I d v u hv ru
    cases d with
    | none => cases rd; exact PySem.P.repr_of_none (fin s.heap _ _ fun _ _ e => e)
    | bool b => cases rd; exact PySem.P.repr_of_bool (by simpa [PyData.shown] using fin s.heap _ _ fun _ _ e => e)
    | int i => cases rd; exact PySem.P.repr_of_int (by simpa [PyData.showable] using hs) (by simpa [PyData.shown] using fin s.heap _ _ fun _ _ e => e)
    | str x => cases rd; exact PySem.P.repr_of_str (by simpa [PyData.shown] using fin s.heap _ _ fun _ _ e => e) (by simpa [PyData.shown] using hz)
    | list xs => cases rd with | list h1 h2 h3 h4 => exact repr_of_reads' (.list h1 h2 h3 h4) hs (PyData.noDict_hsm hn) hg (by omega) (fun _ _ e => e) (fun h' u tk k => fin h' u tk k) hz
    | tuple xs => cases rd with | tuple h1 h2 h3 h4 => exact repr_of_reads' (.tuple h1 h2 h3 h4) hs (PyData.noDict_hsm hn) hg (by omega) (fun _ _ e => e) (fun h' u tk k => fin h' u tk k) hz
    | dict kvs => simp [PyData.hasDict] at hn
  · obtain ⟨z1, z2, vs, kv, dd⟩ := dk_of I.hok ha
    obtain ⟨o, es, ep, ho, hx, hdt, _, hp, _⟩ := dd
    have ev : vs = [] := by cases kv; rfl
    subst ev
    have ee : es.toList = [] := by
      cases hq : es.toList with
      | nil => rfl
      | cons e r => rw [hq] at hp; cases hp
    obtain rfl : u = Value.ref a := ru
    have rd : Reads s.heap (.ref a) (.dict []) (a :: [] ++ []) := .dict ho hx.1 hdt (by rw [ee]; exact .nil) (by rw [ee]; exact .nil)
    exact repr_of_reads' rd hs (fun _ hm => by
      have e : sysModules = a := by simpa using hm
      rw [e] at z2
      simp at z2) hg (by omega) (fun _ _ e => e) (fun h' u tk k => fin h' u tk k) hz
/-- repr of a call by name -/
theorem pe_repr {X : Cx} {e : Expr} {te : TE} {p pos : Pos} (hg : X.A.guards = some []) (hu : X.A.units + 100 < cLine) (hb : X.mg "repr" = none) (hgl : Gl X "repr") (h : PE X e te) (he : starEach [e] X.env = (false, eval e X.env) :: starEach [] X.env := by rfl) (hpl : (backTo pos (starEach [] X.env)).any (·.1) = false := by rfl) :
    PE X (.Call (.Name "repr" p) [e] [] pos) (tCB (rRepr X.K) (tCons te tNil)) := pe_callB (call_repr hg hu) hgl hb (by decide +kernel) (pa_cons h pa_nil he) (by decide) (by decide) he hpl
/-! ### f(k = v), f's promise is of all its parameters -/
theorem pe_callK0 {X : Cx} {CX : CXT} {k : Nat} {f : Addr} {fd : FuncData} {ps ks : List Str} {sp : Sp} {E : XK} {x : Str} {p pos : Pos} {kws : List Keyword} {tk : TA} {g : List Value → List Value → List Value} {gV : List V → List V → List V}
    (F : FnOk X.prog X.w X.K X.mg X.base CX k f fd ps sp) (hr : Room k X.A) (hg : Gl X x) (hm : X.mg x = some (.ref f)) (hk : PySem.W.keepIn X.K (.ref f) = true) (hb : KBinds X.K fd ps ks g gV) (hx : Passes CX X E)
    (hkw : PK X kws tk) (hall : (backToKw pos (keywordEach kws X.env)).all (·.1.isSome) = true := by rfl) (hks : (backToKw pos (keywordEach kws X.env)).filterMap (·.1) = ks := by rfl)
    (hdb : (x == ("__debug__" : Str)) = false := by decide) (hpl : ((backTo pos (starEach [] X.env)).any (·.1) || (backToKw pos (keywordEach kws X.env)).any (·.1.isNone)) = false := by rfl) :
    PE X (.Call (.Name x p) [] kws pos) (tCallK sp gV E tNil tk) := by
  refine ⟨fun pins s σ H Q I h => wpAny_Call_Name_kw (ld_glob I hg hm ?_ hdb)⟩
  refine PySem.W.callWith_KW0 (h₀ := X.base) I.ok.mod.kin hk hall ?_ hpl
  refine thn (hkw.run pos pins s σ H _ I h) fun ws s2 ⟨zs, H2, I2, rz, q2⟩ => ⟨I2.kIn, ?_⟩
  rw [hks]
  exact run_fnk (us := []) F hr hb hx I2 .nil rz q2
/-! ### an exception that is pinned: its field -/
def tXv (a : Addr) (cls : Value) (d : Option Addr) (C : Addr) (te : TE) : TE := fun σ H Q => te σ H fun x H1 => x = .ref a ∧ cls = .ref C ∧ ∃ (dd : Addr) (v : V), d = some dd ∧ H1 dd = some (.xd [("value", v)]) ∧ Q v H1
theorem pe_xv {X : Cx} {a C : Addr} {oe : Obj} {cls : Value} {d : Option Addr} {pn : List (Addr × Obj)} {e : Expr} {te : TE} {pos : Pos} (T : XfC X.K C) (hno : PySem.W.findIn X.K (.ref C) "value" = some none)
    (hz : Zc cls d oe) (hf : ∃ vs, oe.data = .fields vs) (hp : X.pn = (a, oe) :: pn) (he : PE X e te) (hb : attributeBase e "value" X.env (eval e X.env) = eval e X.env := by rfl) : PE X (.Attribute e "value" pos) (tXv a cls d C te) := by
  refine ⟨fun pins s σ H Q I h => attr_of hb (thn (he.run pins s σ H _ I h) fun u s1 ⟨x, H1, I1, rx, ex, ec, dd, v, ed, ea, q⟩ => ?_)⟩
  subst ex ec ed
  obtain rfl : u = Value.ref a := rx
  obtain ⟨ha, _⟩ := I1.pin (a, oe) (List.mem_append_left _ (by rw [hp]; exact List.mem_cons_self))
  obtain ⟨fv, hd⟩ := hf
  obtain ⟨mA, hns, hr⟩ : ObjOk X.prog X.w H1 s1.heap dd (.xd [("value", v)]) := I1.hok dd _ ea
  obtain ⟨od, ho, hl⟩ := lookIn_ns hns
  obtain ⟨z, hu, ru⟩ := RelO.some_of (v := v) (o := mA "value") (hr "value")
  have nc : PySem.W.notCls oe = true := by unfold PySem.W.notCls; rw [hd]
  refine HandSPX.exc_get I1.kIn ⟨ha, hz.1, nc, by rw [hz.2]; exact ho⟩ T.ga T.gg T.exC (PySem.W.findObj_own T.hdC hno rfl ((hl _).trans (congrArg some hu))) (handed_of ru) ⟨v, H1, I1.tok _, ru, q⟩
end EX
set_option Elab.async false
set_option linter.all false
set_option maxRecDepth 100000
set_option autoImplicit false
set_option maxHeartbeats 4000000
/-! EX3: try: body / except x as n: suite, and the statements behind it, which may look at the exception. -/
namespace EX
open PySem PySem.Spec PyProof.Rows L2
section
variable {X : Cx} {pins : List (Addr × Obj)} {σ : L2.St} {H : Hp} {s : Shared}
/-- the suite's pins, kept behind it -/
theorem pin_on {a : Addr} {oe : Obj} (ok : X.Ok) (W : Inv (X.suite a ((a, oe) :: (X.pn ++ pins))) [] σ H s) : Inv (X.tr ((a, oe) :: (X.pn ++ pins)) X.xe) [] σ H s :=
  ⟨ok.toTry _ _, W.os, W.bare, W.base, W.loc, W.cell, W.free, W.freeC, W.pin, W.hok, W.len⟩
theorem pin_off {a : Addr} {oe : Obj} (ok : X.Ok) (W : Inv (X.tr ((a, oe) :: (X.pn ++ pins)) X.xe) [] σ H s) : Inv X pins σ H s :=
  ⟨ok, W.os, W.bare, W.base, W.loc, W.cell, W.free, W.freeC, fun p hp => W.pin p (by rw [List.append_nil]; exact List.mem_cons_of_mem _ hp), W.hok, W.len⟩
end
/-- what the clause wishes; r: what stands behind the statement, the exception pinned -/
def wKeep (K : PySem.W.Frag) (c : Value) (i : Nat) (ts : Addr → Value → Option Addr → TS) (r : Addr → Value → Option Addr → TS) (D : Ends) : WX := fun cls d σ H =>
  PySem.W.exmOne K cls c = some true ∧ ∀ a, H a = none → ts a cls d { nx := fun σ' H' => r a cls d D (σ'.set i none) H', rt := fun _ _ => False } (σ.set i (some (.ref a))) H
section
variable {X : Cx} {x n : Str} {c : Value} {i : Nat} {body suite rest : List Stmt} {b₀ : Stmt} {np pos pos' : Pos} {tb : WX → TS} {ts r : Addr → Value → Option Addr → TS} {r0 : TS}
theorem pss_try_keep (hs : X.stack = X.env :: X.outer) (hf : X.env.frame = some X.env.locals) (hN : X.N.Nodup) (hi : X.N[i]? = some n) (hln : X.env.kindOf n = some .local) (hc : Names X x c)
    (hb : ∀ (W : WX) (pn : List (Addr × Obj)) (xe : Value → Shared → Prop), Takes (X.tr pn xe) W → PassesOwn (model X.prog X.w) X.A X.env xe → PSs (X.tr pn xe) body (tb W))
    (hsu : ∀ (a : Addr) (oe : Obj) (cls : Value) (d : Option Addr) (pn : List (Addr × Obj)), Zc cls d oe → (∃ vs, oe.data = .fields vs) → PSs (X.suite a ((a, oe) :: pn)) (b₀ :: suite) (ts a cls d))
    (h0 : PSs X rest r0) (hr : ∀ (a : Addr) (oe : Obj) (cls : Value) (d : Option Addr) (pn : List (Addr × Obj)), Zc cls d oe → (∃ vs, oe.data = .fields vs) → PSs (X.tr ((a, oe) :: pn) X.xe) rest (r a cls d)) :
    PSs X (.Try body [.ExceptHandler (some (.Name x np)) (some n) (b₀ :: suite) pos'] [] [] pos :: rest) (fun D σ H => tb (wKeep X.K c i ts r D) { D with nx := r0 D } σ H) := by
  refine ⟨fun pins s σ H D I h => wpAny_execs_cons (wpAny_Try_except ?_)⟩
  have ok := I.ok
  have frs0 : X.A.frames = some (X.env :: X.outer) := ok.frames.trans (congrArg some hs)
  -- behind the statement, nothing was raised
  have calm : ∀ (f : Flow) (s1 : Shared), SP X pins { D with nx := r0 D } f s1 → (match f with | .next => wpAny (model X.prog X.w) X.A (execs rest X.env) (SP X pins D) X.xe s1 | f => SP X pins D f s1) := fun f s1 q => by
    cases f with
    | next => obtain ⟨σ1, H1, W1, q1⟩ := q; exact h0.run pins s1 σ1 H1 D W1 q1
    | brk => exact q
    | cont => exact q
    | ret u => exact q
  refine wpAny_mono ((hb (wKeep X.K c i ts r D) (X.pn ++ pins) _ (fun u s1 xx => ?_) PassesOwn.looking).run [] s σ H { D with nx := r0 D } (I.toTry _) h) (fun f s1 q => ?_) fun _ _ e => e
  rotate_left
  · -- the body's end
    have q2 : SP X pins { D with nx := r0 D } f s1 := by
      cases f with
      | next => obtain ⟨σ1, H1, W1, z⟩ := q; exact ⟨σ1, H1, W1.ofTry ok, z⟩
      | brk => obtain ⟨σ1, H1, W1, z⟩ := q; exact ⟨σ1, H1, W1.ofTry ok, z⟩
      | cont => obtain ⟨σ1, H1, W1, z⟩ := q; exact ⟨σ1, H1, W1.ofTry ok, z⟩
      | ret u => obtain ⟨v, σ1, H1, W1, rv, z⟩ := q; exact ⟨v, σ1, H1, W1.ofTry ok, rv, z⟩
    cases f with
    | next => exact wpAny_execs_nil (calm .next s1 q2)
    | brk => exact q2
    | cont => exact q2
    | ret u => exact q2
  · -- caught
    obtain ⟨a, B, sJ, pinsJ, σ1, H1, cls, d, rfl, W1, nb, up, sky, na, os, ag, hcl, hts⟩ := xx
    have W2 : Inv X pins σ1 H1 sJ := W1.ofTry ok
    rw [show (X.tr (X.pn ++ pins) _).stack = X.stack from rfl, hs] at sky
    refine Sky.land Zc.steady frs0 hf sky fun h3 fl up3 => ?_
    have W3 : Inv X pins σ1 H1 { s1 with heap := h3 } := W2.landed nb fl.1 (up.trans up3) os ag
    have off : ∀ {hp : Heap} {o : Obj} {vs : Array Value}, hp.FunFrames B (X.env :: X.outer) → hp.get? a = some o → o.data = .fields vs → a ≠ X.env.locals ∧ a ∉ X.fs := fun {hp o vs} ff e dd => by
      have nin : a ∉ frs (X.env :: X.outer) := fun hm => by
        obtain ⟨_, o', e', hnf⟩ := ff.mem hm
        rw [e] at e'; cases e'
        exact hnf _ dd
      refine ⟨fun z => nin (List.mem_filterMap.mpr ⟨X.env, List.mem_cons_self, hf.trans (congrArg some z.symm)⟩), fun hm => ?_⟩
      obtain ⟨e1, he1, q⟩ := List.mem_filterMap.mp hm
      exact nin (List.mem_filterMap.mpr ⟨e1, List.mem_cons_of_mem _ he1, q⟩)
    obtain ⟨o3, v3, g3, z3, d3⟩ := fl.there
    obtain ⟨l3, f3⟩ := off fl.2.2.1 g3 d3
    have S3 := W3.suite g3 d3 na l3 f3
    refine wpAny_handleBy_cons (codeAny_handlers_test ?_) (by intro q; cases q)
    have LT : PySem.W.Looks (model X.prog X.w) h3 (typeOf (.ref a)) cls := fun _ _ _ _ k q => wpAny_typeOf_ref (k _ _ g3) (by rw [z3.1]; exact q)
    have LM := PySem.W.exm_one (M := model X.prog X.w) W3.kIn LT hcl
    have seen : ∀ {Q : Value → Shared → Prop} {E : Value → Shared → Prop}, Q c { s1 with heap := h3 } → wpAny (model X.prog X.w) (X.A.mark (some (.ref a))) (eval (.Name x np) X.env) Q E { s1 with heap := h3 } := fun {Q E} q => by
      obtain ⟨hg, hdbg, hm | ⟨hm, hv, hnn⟩⟩ := hc
      · exact ld_glob (X := X.suite a ((a, o3) :: (X.pn ++ pins))) S3 hg hm q hdbg
      · exact ld_blt (X := X.suite a ((a, o3) :: (X.pn ++ pins))) S3 hg hm hv q hnn hdbg
    refine seen (LM.here (codeAny_handlers_suite_as (HandSPX.lands_againZ fl fun h4 fl4 up4 => ?_)))
    have W4 : Inv X pins σ1 H1 { s1 with heap := h4 } := W2.landed nb fl4.1 ((up.trans up3).trans up4) os ag
    obtain ⟨o4, v4, g4, z4, d4⟩ := fl4.there
    have S4 := W4.suite g4 d4 na l3 f3
    refine store_ok (X := X.suite a ((a, o4) :: (X.pn ++ pins))) (v := .ref a) S4 hN hi (.inl hln) rfl (fun s5 S5 => ?_) (.inr hln)
    refine wpAny_mono ((hsu a o4 cls d (X.pn ++ pins) z4 ⟨_, d4⟩).run [] s5 _ H1 _ S5 (hts a na)) (fun f s6 q => ?_) fun _ _ z => False.elim z
    cases f with
    | next =>
      obtain ⟨σ6, H6, S6, q6⟩ := q
      refine gone_ok (X := X.tr ((a, o4) :: (X.pn ++ pins)) X.xe) (pin_on ok S6) hN hi hln fun s7 S7 => ?_
      refine wpAny_mono ((hr a o4 cls d (X.pn ++ pins) z4 ⟨_, d4⟩).run [] s7 _ H6 D S7 q6) (fun f s8 q8 => ?_) fun _ _ z => z
      cases f with
      | next => obtain ⟨σ8, H8, S8, z⟩ := q8; exact ⟨σ8, H8, pin_off ok S8, z⟩
      | brk => obtain ⟨σ8, H8, S8, z⟩ := q8; exact ⟨σ8, H8, pin_off ok S8, z⟩
      | cont => obtain ⟨σ8, H8, S8, z⟩ := q8; exact ⟨σ8, H8, pin_off ok S8, z⟩
      | ret u => obtain ⟨v, σ8, H8, S8, rv, z⟩ := q8; exact ⟨v, σ8, H8, pin_off ok S8, rv, z⟩
    | brk => obtain ⟨_, _, _, z⟩ := q; exact z.elim
    | cont => obtain ⟨_, _, _, z⟩ := q; exact z.elim
    | ret u => obtain ⟨_, _, _, _, _, z⟩ := q; exact z.elim
end
end EX
set_option Elab.async false
set_option linter.all false
set_option maxRecDepth 100000
set_option autoImplicit false
set_option maxHeartbeats 4000000
/-! EX4: repr, calls by keywords, raises at the data level. -/
namespace EX
open PySem PySem.Spec PyProof.Rows L2 DL
/-! ### promises: joined, with exceptions allowed -/
theorem fn_cx {P : Program} {w : World} {K : PySem.W.Frag} {mg : Str → Option Value} {base : Heap} {CX : CXT} {k : Nat} {f : Addr} {fd : FuncData} {ps : List Str} {sp : Sp} (F : FnOk P w K mg base CX0 k f fd ps sp) : FnOk P w K mg base CX k f fd ps sp :=
  ⟨F.len, fun A outer s H args us vs Q E hr e0 hb r hsp => codeAny_mono (F.run A outer s H args us vs Q E hr e0 hb r hsp) fun z s' hz => by
    cases z with
    | ok fl => cases fl <;> exact hz
    | error e => exact False.elim hz⟩
theorem fn_or {P : Program} {w : World} {K : PySem.W.Frag} {mg : Str → Option Value} {base : Heap} {CX : CXT} {k : Nat} {f : Addr} {fd : FuncData} {ps : List Str} {sp sp' : Sp} (F : FnOk P w K mg base CX k f fd ps sp) (G : FnOk P w K mg base CX k f fd ps sp') :
    FnOk P w K mg base CX k f fd ps fun vs H Q E => sp vs H Q E ∨ sp' vs H Q E :=
  ⟨fun vs H Q E h => h.elim (F.len vs H Q E) (G.len vs H Q E), fun A outer s H args us vs Q E hr e0 hb r hsp => hsp.elim (F.run A outer s H args us vs Q E hr e0 hb r) (G.run A outer s H args us vs Q E hr e0 hb r)⟩
/-- the exception class named x, its __init__ -/
structure Rz (P : Program) (w : World) (K : PySem.W.Frag) (mg : Str → Option Value) (base : Heap) (x : Str) (C D : Addr) : Prop where
  g : mg x = some (.ref C)
  ex : ExC K C D
  xf : XfC K C
  te : PySem.W.exmOne K (.ref C) (.ref C) = some true
  ini : ∃ (fI : Addr) (fd : FuncData), PySem.W.findIn K (.ref C) "__init__" = some (some (.ref fI)) ∧ PySem.W.typeIn K (.ref fI) = some (.type "function") ∧ FnOk P w K mg base CX0 1 fI fd ["self", "value"] (spIni K D) ∧ Binds K fd ["self", "value"] []
section
variable {X : Cx} {x : Str} {C D : Addr} {e : Expr} {te : TE} {p pos pos2 : Pos} {W : WX} {k : Nat}
/-- raise C(e) -/
theorem ps_rz (Z : Rz X.prog X.w X.K X.mg X.base x C D) (hc : X.calm = true) (hr : Room k X.A) (hk : 2 ≤ k) (hg : Gl X x) (tk : Takes X W) (h : PE X e te) (hdb : (x == ("__debug__" : Str)) = false := by decide)
    (he : starEach [e] X.env = (false, eval e X.env) :: starEach [] X.env := by rfl) (hpl : (backTo pos (starEach [] X.env)).any (·.1) = false := by rfl) :
    PS X (.Raise (some (.Call (.Name x p) [e] [] pos)) none pos2) (fun _ σ H => tMkO C (spIni X.K D) [] (tCons te tNil) σ H fun cls d H' => W cls d σ H') := by
  obtain ⟨fI, fd, h1, h2, h3, h4⟩ := Z.ini
  exact ps_raise hc tk (pmk_oex Z.ex.ox h1 h2 h3 (hr.mono hk) h4 .nil pass0 hg Z.g (pa_cons h pa_nil he) hdb he hpl)
/-- what it leads to -/
theorem rz_to (T : ExC X.K C D) {σ : L2.St} {H : Hp} {Q : XK} {te : TE} (h : te σ H fun y H1 => ∀ d, H1 d = none → Q (.ref C) (some d) (upd H1 d (.xd [("value", y)]))) (mono : ∀ {R R' : VK}, (∀ v H1, R v H1 → R' v H1) → te σ H R → te σ H R') : tMkO C (spIni X.K D) [] (tCons te tNil) σ H Q :=
  mono (fun y H1 q => ⟨by show 1 ≤ 1000; decide, mkO_in T q⟩) h
end
/-! ### statements that are never reached -/
def qBad : QS := fun _ _ => False
theorem ds_bad {X : Cx} {st : Stmt} {t : TS} (h : PS X st t) : DS X st t qBad := ⟨h, fun _ _ _ _ hq => hq.elim⟩
/-! ### repr -/
def kRepr : List PyData → (SD → Prop) → Prop := fun ds Q => ∃ d, ds = [d] ∧ d.showable = true ∧ d.depth ≤ 60 ∧ d.shown.length ≤ sizeLine ∧ d.hasDict = false ∧ Q (.dt (.str d.shown))
theorem oa_repr {K : PySem.W.Frag} : OpA K (rRepr K) kRepr := by
  rintro F S σ ρ H xs ds Q rfl E h1 ⟨d, rfl, h2, h3, h4, h5, hq⟩ Q' k
  obtain ⟨x, rfl, rx⟩ := h1.one_inv
  exact ⟨x, d, rfl, .inl ⟨(rx.mono hide_le).dp, h5⟩, h2, h3, h4, ans (F := F) (S := S) (σ := σ) (ρ := ρ) k (rp_str.mpr rfl) hq⟩
/-! ### f(k = e) -/
/-- f by keywords: what stands of it -/
structure CalK (P : Program) (w : World) (K : PySem.W.Frag) (mg : Str → Option Value) (base : Heap) (k : Nat) (x : Str) (ks : List Str) (sp : Sp) : Prop where
  ex : ∃ (f : Addr) (fd : FuncData) (ps : List Str), FnOk P w K mg base CX0 k f fd ps sp ∧ mg x = some (.ref f) ∧ PySem.W.keepIn K (.ref f) = true ∧ KBinds K fd ps ks (fun us ws => us ++ ws ++ []) (fun vs zs => vs ++ zs ++ [])
theorem dq_cK {X : Cx} {k j : Nat} {x y : Str} {e : Expr} {te : TE} {qe : QE} {d : DSp} {p pos kpos : Pos} (G : CalK X.prog X.w X.K X.mg X.base k x [y] (toSp X.K d)) (hr : Room j X.A) (hk : k ≤ j) (hg : Gl X x) (h : DQ X e te qe)
    (hall : (backToKw pos (keywordEach [⟨some y, e, kpos⟩] X.env)).all (·.1.isSome) = true := by rfl) (hks : (backToKw pos (keywordEach [⟨some y, e, kpos⟩] X.env)).filterMap (·.1) = [y] := by rfl)
    (hdb : (x == ("__debug__" : Str)) = false := by decide) (hpl : ((backTo pos (starEach [] X.env)).any (·.1) || (backToKw pos (keywordEach [⟨some y, e, kpos⟩] X.env)).any (·.1.isNone)) = false := by rfl)
    (ha : DA X [e] (tCons te tNil) (qCons qe qNil)) : DQ X (.Call (.Name x p) [] [⟨some y, e, kpos⟩] pos) (tCallK (toSp X.K d) (fun vs zs => vs ++ zs ++ []) E0 tNil (tCons te tNil)) (qCall d (qCons qe qNil)) := by
  obtain ⟨f, fd, ps, F, hm, hkp, hb⟩ := G.ex
  exact ⟨pe_callK0 F (hr.mono hk) hg hm hkp hb pass0 (pk_cons h.pe pk_nil) hall hks hdb hpl, sim_call ha⟩
/-! ### a slot of which nothing is told any more -/
theorem En.any {F : Fm} {S : List (Option Addr)} {σ : L2.St} {H : Hp} {ρ : List SD} (E : En F S σ H ρ) {i : Nat} (x : Option V) (ok : okP ρ[i]? = true) : En F S (σ.set i x) H (ρ.set i .un) := by
  have hl : i < ρ.length := by
    cases e : ρ[i]? with
    | none => rw [e] at ok; cases ok
    | some s => exact (List.getElem?_eq_some_iff.mp e).1
  have hs : S[i]? = some none := by
    cases e : ρ[i]? with
    | none => rw [e] at ok; cases ok
    | some s =>
      have q := E.at_ i s e
      rw [e] at ok
      cases s with
      | un => exact q
      | dt d => exact q.1
      | ow xs => cases ok
      | pw xs => cases ok
  refine ⟨by rw [List.length_set, List.length_set]; exact E.len, by rw [List.length_set]; exact E.lenS, E.bf, E.fr, E.inj, fun a ht => ?_, fun j a h1 h2 => ?_, fun j r hr => ?_⟩
  · obtain ⟨j, xs, h1, h2⟩ := E.tw a ht
    have hj : i ≠ j := fun z => by
      rw [← z, hs] at h2
      cases h2
    exact ⟨j, xs, by rw [List.getElem?_set_ne hj]; exact h1, h2⟩
  · by_cases hj : i = j
    · subst hj
      rw [hs] at h2; cases h2
    · rw [List.getElem?_set_ne hj] at h1
      exact E.an j a h1 h2
  · by_cases hj : i = j
    · subst hj
      rw [List.getElem?_set_self hl] at hr
      cases hr
      exact hs
    · rw [List.getElem?_set_ne hj] at hr ⊢
      exact E.at_ j r hr
end EX
set_option Elab.async false
set_option linter.all false
set_option maxRecDepth 100000
set_option autoImplicit false
set_option maxHeartbeats 4000000
/-! EX5: promises of defs as functions (not by names), plain ones from the data level. -/
namespace EX
open PySem PySem.Spec PyProof.Rows L2 DL
theorem ptq {X : Cx} {e : Expr} {t : TT} {q : QT} (h : DT X e t q) : PT X e t := h.pt
theorem peq {X : Cx} {e : Expr} {t : TE} {q : QE} (h : DQ X e t q) : PE X e t := h.pe
theorem psq {X : Cx} {b : List Stmt} {t : TS} {q : QS} (h : DSs X b t q) : PSs X b t := h.ps
/-- a def of the head, walked at the data level: its promise -/
theorem fn_dl {P : Program} {w : World} {K : PySem.W.Frag} {mg : Str → Option Value} {base : Heap} {x : Str} {st : Stmt} {f : Addr} {fd : FuncData} {kws : List (Str × V)} {N ps : List Str} {k : Nat} {d : DSp} {q : QS}
    (F : FunD K x x (defArgs st) (defBody st) (defScope st) [] kws f fd) (S : FnScope N ps (defScope st)) (n : Nat) (hn : ps.length = n)
    (hder : ∀ (cdv : Value) (A : Around) (outer : List Env) (s : Shared) (H : Hp) (E : XK), Room k (A.deeper (envOfC x (defScope st) s.heap.objs.size f cdv)) → ∃ t, DSs (cxOf CX0 P w K mg base N x (defScope st) f cdv A outer s H E).nox (defBody st) t q)
    (pure_ : ∀ as R, d as R → as.length = n ∧ q { nx := fun ρ => R (.dt .none) (pwOf ρ), rt := fun r ρ => R r (pwOf ρ) } (as ++ List.replicate (N.length - n) .un)) : FnOk P w K mg base CX0 (k + 1) f fd ps (toSp K d) := by
  subst hn
  exact fun_dl (He5.fun_of F) S (fun as R h => (pure_ as R h).1) fun cdv A outer s H E hr => (hder cdv A outer s H E hr).elim fun t D => ⟨t, q, D, fun as R h => (pure_ as R h).2⟩
/-- one argument that is data, nothing handed in to be changed -/
theorem sp_one {K : PySem.W.Frag} {d : DSp} {H : Hp} {a : PyData} {v : V} {Q : VK} {E : XK} (R : PyData → Prop) (hv : Rp K H a v) (hd : d [.dt a] fun r _ => ∃ z, r = .dt z ∧ R z)
    (k : ∀ (z : PyData) (u : V) (H' : Hp), (∀ b o, H b = some o → H' b = some o) → Rp K H' z u → R z → Q u H') : toSp K d [v] H Q E := by
  have e : ∀ (H1 : Hp), hide (hT (fun _ => False) none) H1 = H1 := fun H1 => funext fun b => by
    unfold hide
    rw [if_neg]
    rintro (z | z)
    · exact z
    · cases z
  refine ⟨fun _ => False, none, [.dt a], _, ⟨rfl, fun b z => z.elim, fun a z => (nomatch z), fun i j xs ys h => ?_, fun i s hs => ?_⟩, hd, fun r u H' ys fr res hr => ?_⟩
  · cases i <;> simp at h
  · cases i with
    | zero =>
      have e2 : SD.dt a = s := by simpa using hs
      subst e2
      exact ⟨v, rfl, by rw [e]; exact hv⟩
    | succ i => simp at hs
  · obtain ⟨z, rfl, hz⟩ := hr
    obtain ⟨h1, _⟩ := res
    rw [e] at h1
    exact k z u H' (fun b o q => fr b o q fun z => nomatch z) h1 hz
/-! ### promises of defs that raise C(v) -/
/-- for a value whose class is none of str's -/
def spNs (K : PySem.W.Frag) (C : Addr) : Sp := fun vs H _ E => ∃ (v : V) (t : String), vs = [v] ∧ TyX K H v (.type t) ∧ kitB t "str" = some false ∧ ∀ e, H e = none → E (.ref C) (some e) (upd H e (.xd [("value", v)]))
end EX
set_option Elab.async false
set_option linter.all false
set_option maxRecDepth 100000
set_option autoImplicit false
set_option maxHeartbeats 4000000
/-! EXW: a law that is called where nothing is being shown: its body may ask repr of lists. -/
namespace EXW
open PySem PySem.Spec PyProof.Rows L2 DL EX
/-- the law's own call keeps sp -/
def RunC (P : Program) (w : World) (K : PySem.W.Frag) (mg : Str → Option Value) (base : Heap) (fa : Addr) (fd : FuncData) (x : Str) (sp : Sp) : Prop :=
  ∀ (s : Shared) (H : Hp) (u : Value) (v : V) (Q : VK), Env0 P w K mg base callerA [] s H → BindsTo s fd ⟨[u], []⟩ [(x, u)] → RelV v u → sp [v] H Q E0 → codeAny (model P w) callerA (.call (.ref fa) ⟨[u], []⟩) (CR CX0 [] P w H s Q E0) s
/-- .. from its body -/
theorem runC_of {P : Program} {w : World} {K : PySem.W.Frag} {mg : Str → Option Value} {base : Heap} {k : Nat} {f : Addr} {fd : FuncData} {x nm : Str} {ar : Arguments} {b : List Stmt} {sc : Scope} {N : List Str} {sp : Sp} {kws : List (Str × V)} (F : FunD K nm nm ar b sc [] kws f fd) (S : FnScope N [x] sc) (hr : Room (k + 1) callerA)
    (go : ∀ (cdv : Value) (s : Shared) (H : Hp) (v : V) (Q : VK), Room k (callerA.deeper (envOfC nm sc s.heap.objs.size f cdv)) → sp [v] H Q E0 → ∃ t, PSs (cxOf CX0 P w K mg base N nm sc f cdv callerA [] s H E0) b t ∧ t { nx := fun _ H' => Q .non H', rt := Q } (start N [v]) H) : RunC P w K mg base f fd x sp := by
  intro s H u v Q en hbd rv hq
  obtain ⟨oc, od, dV, kV, doc, pm, an, cdv, ct, osl, rfl, lk, hc, _, _⟩ := F.ex
  have inS : K.In s.heap := en.mod.kin.keeps fun a o z => (en.bs a o z).1
  have noL := en.mod.nolimit.keeps fun a o z => (en.bs a o z).1
  have kinds : ∀ y ∈ [(x, u)], sc.names.lookup y.1 = some .local ∨ (sc.names.lookup y.1 = some .cell ∧ ((cellsFrom (s.heap.objs.size + 1) sc.names []).lookup y.1).isSome = true) := fun y hy => by
    obtain rfl := List.mem_singleton.mp hy
    exact (S.par x List.mem_cons_self).elim .inl fun z => .inr ⟨z, PySem.W.cellsFrom_some _ _ _ (.inl z)⟩
  refine codeAny_call_function hr.depth (inS _ _ lk) rfl S.co S.gen rfl (PySem.W.codeRec_of inS hc) (hbd _ _ _ _ (wpAny_newFunctionEnv_cells S.kind kinds fun en1 e1 s1 z => ?_))
  subst e1
  refine ⟨noL.keeps z.toInCall.keep, codeAny_func ?_⟩
  obtain ⟨t, pt, qt⟩ := go cdv s H v Q (hr.deeper _) hq
  have J0 : Inv (cxOf CX0 P w K mg base N nm sc f cdv callerA [] s H E0) [] (start N [v]) H s1 := inv_start S hr.hd en rfl (.cons rv .nil) z
  refine wpAny_mono (pt.run [] s1 _ H _ J0 qt) (fun fl s2 hs => ?_) fun _ _ y => y
  have out : ∀ {σ2 : L2.St} {H2 : Hp} {v2 : V} {u2 : Value}, Inv (cxOf CX0 P w K mg base N nm sc f cdv callerA [] s H E0) [] σ2 H2 s2 → RelV v2 u2 → Q v2 H2 → CE [] P w H s Q u2 s2 := fun {σ2 H2 v2 u2} J r2 q2 => ⟨v2, H2, J.os, J.bare, J.base, J.hok, r2, q2⟩
  match fl, hs with
  | .ret u2, ⟨v2, σ2, H2, J, r2, q2⟩ => exact out J r2 q2
  | .next, ⟨σ2, H2, J, q2⟩ => exact out (v2 := .non) (u2 := .none) J rfl q2
  | .brk, ⟨_, _, _, z⟩ => exact z.elim
  | .cont, ⟨_, _, _, z⟩ => exact z.elim
/-- the head: that call, at the heap behind the top -/
theorem called {P : Program} {w : World} {K : PySem.W.Frag} {mg mb : Str → Option Value} {fa a : Addr} {fd : FuncData} {x : Str} {sp : Sp} {s : Shared} {vs : List Value} {ns : List Int} (inK : K.In s.heap) (nsG : s.heap.Ns mainGlobals mg) (nsB : s.heap.Ns builtinsNs mb) (blt : ∀ y : Str, y ≠ "__name__" → mb y = bootBuiltins y)
    (noL : s.heap.NoLimit) (gen : s.gens = #[]) (at_ : s.heap.get? a = some { cls := .type "list", data := .seq vs.toArray }) (hin : IntsAre vs ns) (small : ns.length ≤ sizeLine)
    (F : ∀ base : Heap, K.In base → base.Ns mainGlobals mg → RunC P w K mg base fa fd x sp) (bd : ∀ (s : Shared) (u : Value), BindsTo s fd ⟨[u], []⟩ [(x, u)]) (hsp : ∀ H : Hp, SqL K H a (ns.map V.int) → sp [.ref a] H (fun v _ => v = .bl true) E0) :
    codeAny (model P w) callerA (.call (.ref fa) ⟨[.ref a], []⟩) (fun r s' => r = .ok (.ret (.bool true)) ∧ OldK s.heap s'.heap ∧ s'.os = s.os ∧ AllBare s'.gens) s := by
  let ob : Obj := { cls := .type "list", data := .seq vs.toArray }
  have hv := vals_ints hin
  have inner : ∀ H : Hp, (∀ b, H b = none ∨ (b = a ∧ H b = some (.frz ob (.lst (ns.map V.int))))) → SqL K H a (ns.map V.int) → HOk P w H s.heap → (H a ≠ none → K.lookup a = none) →
      codeAny (model P w) callerA (.call (.ref fa) ⟨[.ref a], []⟩) (fun r s' => r = .ok (.ret (.bool true)) ∧ OldK s.heap s'.heap ∧ s'.os = s.os ∧ AllBare s'.gens) s := fun H one sq ok away => by
    -- what is no list stands in the ground
    have low : ∀ {b : Addr} {o : Obj}, s.heap.get? b = some o → (∀ its n, o.data ≠ .seq its n) → (hidT s.heap H).get? b = some o := fun {b o} e nd => hidT_get e ((one b).elim id fun ⟨eb, _⟩ => by
      rw [eb, at_] at e
      cases e
      exact absurd rfl (nd vs.toArray _))
    have spaces : ∀ {b : Addr} {m : Str → Option Value}, s.heap.Ns b m → (hidT s.heap H).Ns b m := fun {b m} ⟨o, es, ep, e, d, r⟩ => ⟨o, es, ep, low e (fun its n z => by rw [d] at z; cases z), d, r⟩
    have ground : K.In (hidT s.heap H) := fun b o e => hidT_get (inK b o e) ((one b).elim id fun ⟨eb, hb⟩ => by
      rw [eb] at e hb
      rw [away (by rw [hb]; exact fun z => nomatch z)] at e
      cases e)
    have md : Mod K mg (hidT s.heap H) := ⟨ground, spaces nsG, ⟨mb, spaces nsB, blt⟩, noL.elim fun mc z => ⟨mc, spaces z.1, z.2⟩⟩
    have en : Env0 P w K mg (hidT s.heap H) callerA [] s H := ⟨rfl, md, fun b o e => of_hidT e, Nat.le_of_eq (hidT_size _ _), trivial, fun b z => (by cases z), ok, .of_eq gen⟩
    refine codeAny_mono (F _ ground (spaces nsG) s H (.ref a) (.ref a) _ en (bd s _) rfl (hsp H sq)) fun r s' q => ?_
    match r, q with
    | .ok (.ret u), ⟨v, H', o1, b1, un, ok', rv, e⟩ =>
      have e' : v = .bl true := e
      subst e'
      obtain rfl : u = Value.bool true := rv
      refine ⟨rfl, OldK.of_keep fun b o g => ?_, o1, b1⟩
      rcases one b with z | ⟨_, z⟩
      · exact un.keep b o g z (fun y => by cases y) (by simp)
      · have z2 := un.frzs b ob _ z
        have y1 := (ok b _ z).1
        rw [g] at y1
        cases y1
        exact (ok' b _ z2).1
  by_cases hk : K.lookup a = none
  · refine inner (fun b => if b = a then some (.frz ob (.lst (ns.map V.int))) else none) (fun b => ?_) (.inl (.inr ⟨ob, if_pos rfl⟩)) (fun b u z => ?_) fun _ => hk
    · by_cases e : b = a
      · exact .inr ⟨e, if_pos e⟩
      · exact .inl (if_neg e)
    · by_cases e : b = a
      · subst e
        obtain rfl := Option.some.inj ((if_pos rfl).symm.trans z)
        exact ⟨at_, by rw [List.length_map]; exact small, vs, _, hv, at_⟩
      · cases (if_neg e).symm.trans z
  · obtain ⟨o, ho⟩ := Option.ne_none_iff_exists'.mp hk
    have g := (inK a o ho).symm.trans at_
    cases g
    exact inner (fun _ => none) (fun _ => .inl rfl) (.inr ⟨_, vs.toArray, _, ho, rfl, rfl, rfl, by rw [List.size_toArray, hin.length]; exact small, by simpa using hv⟩) (fun b u z => by cases z) fun z => absurd rfl z
/-- the goal behind head_any -/
theorem walk_G {l : PySem.W.OpenLaw} {n : Nat} {q : Program} {loose : List Str} {XP : (Str → Option Value) → Heap → Prop} {YP : World → Heap → Prop} {d : DefRec} {x : Str} (hn : l.most = some n) (hn2 : n ≤ sizeLine) (hdf : d.params.defaults = [])
    (F : ∀ (w : World) (mg : Str → Option Value) (fa : Addr) (h : Heap), YP w h → h.Ns mainGlobals mg → mg d.name = some (.ref fa) → ∃ (K : PySem.W.Frag) (fd : FuncData) (sp : Sp), K.In h ∧ (∀ (s : Shared) (u : Value), BindsTo s fd ⟨[u], []⟩ [(x, u)]) ∧
      (∀ (H : Hp) (a : Addr) (ns : List Int), ns.length ≤ n → SqL K H a (ns.map V.int) → sp [.ref a] H (fun v _ => v = .bl true) E0) ∧ ∀ base : Heap, K.In base → base.Ns mainGlobals mg → RunC l.prog w K mg base fa fd x sp) :
    PySem.W.WalkO q loose XP YP l.row.toRowW d [] (fun f vs => PySem.call f vs) :=
  Att.attach_call hn hdf fun w s0 s1 mg mb fa o pm cd doc a vs ns G Y _ _ _ hmg at_ hin le gen => by
    obtain ⟨K, fd, sp, inK, bd, hsp, go⟩ := F w mg fa _ Y G.T.g hmg
    exact called inK G.T.g G.T.b G.T.builtins G.T.nolimit gen at_ hin (Nat.le_trans le hn2) go bd fun H sq => hsp H a ns le sq
end EXW
set_option Elab.async false
set_option linter.all false
set_option maxRecDepth 100000
set_option autoImplicit false
set_option maxHeartbeats 4000000
/-! EXH: the head's facts: the kit's, a Bool of our own, one __init__ that says super(). -/
namespace EXH
open PySem PySem.Spec PyProof.Rows L2 He EX
/-! ### facts as Bools -/
def oexB (K : PySem.W.Frag) (C : Addr) : Bool := match K.lookup C with
  | some ⟨.type c, _, .cls cd, sl⟩ => decide (c = "type") && ((match cd.mro with
    | .ref D :: bm => decide (D = C) && HandSPX.refsVE bm
    | _ => false) && (cd.hasDict && (!cd.hasDel && (match sl.toList with
    | [_, _, _, _, some (.builtin n), _] => decide (n = "ValueError.__new__")
    | _ => false))))
  | _ => false
theorem oexB_ok {K : PySem.W.Frag} {C : Addr} (h : oexB K C = true) : ∃ nm q N bs bm sn sub ab col dd k0 k1 k2 k3 k5, K.lookup C = some (excClassObj nm q C N bs bm true sn sub ab col dd k0 k1 k2 k3 k5 "ValueError.__new__") ∧ HandSPX.refsVE bm = true := by
  unfold oexB at h
  cases q : K.lookup C with
  | none => rw [q] at h; cases h
  | some o =>
    obtain ⟨oc, od, dt, sl⟩ := o
    rw [q] at h
    cases oc with
    | type c =>
      cases dt with
      | cls cd =>
        obtain ⟨nm, bs, mro, ns, qn, hd, sn, sb, ab, col, del⟩ := cd
        obtain ⟨h1, h⟩ := ba h
        obtain ⟨h2, h⟩ := ba h
        obtain ⟨h3, h⟩ := ba h
        obtain ⟨h4, h5⟩ := ba h
        have e1 := of_decide_eq_true h1
        subst e1
        have e3 : hd = true := h3
        subst e3
        have e4 : del = false := by simpa using h4
        subst e4
        cases mro with
        | nil => cases h2
        | cons x bm =>
          cases x with
          | ref D =>
            obtain ⟨h6, h7⟩ := ba h2
            have e6 := of_decide_eq_true h6
            subst e6
            obtain ⟨l⟩ := sl
            match l, h5 with
            | [k0, k1, k2, k3, some (.builtin n), k5], h5 =>
              have e5 : n = "ValueError.__new__" := of_decide_eq_true h5
              subst e5
              exact ⟨nm, qn, ns, bs, bm, sn, sb, ab, col, od, k0, k1, k2, k3, k5, rfl, h7⟩
          | _ => cases h2
      | _ => cases h
    | _ => cases dt <;> cases h
/-- an exception class: its name, the name of the class with the __init__ -/
def exB (K : PySem.W.Frag) (x pe : Str) : Bool :=
  oexB K (ga K x) && (eqO (PySem.W.findIn K (.ref (ga K x)) "__setattr__") (some (some (.builtin "object.__setattr__"))) && (decide (PySem.W.subIn K (.ref (ga K x)) (.type "BaseException") = some true) && (decide (PySem.W.typeIn K (.ref (ga K x)) = some (.type "type")) &&
  (PySem.W.keepIn K (.ref (ga K x)) && (eqO (PySem.W.findIn K (.ref (ga K x)) "value") (some none) && (eqO (PySem.W.ks_superIn K (ga K x) (ga K pe) "__init__") (some (some (.builtin "ValueError.__init__"))) && (decide (PySem.W.subIn K (.ref (ga K x)) (.type "ValueError") = some true) &&
  (decide (PySem.W.mroIn K (ga K x) (.ref (ga K pe)) = some true) && (eqO (PySem.W.findIn K (.ref (ga K x)) "__init__") (some (some (.ref (ma K (ga K pe) "__init__")))) && (decide (PySem.W.typeIn K (.ref (ma K (ga K pe) "__init__")) = some (.type "function")) && (xfB K (ga K x) && decide (PySem.W.exmOne K (.ref (ga K x)) (.ref (ga K x)) = some true))))))))))))
structure ExOk (K : PySem.W.Frag) (C D fI : Addr) : Prop where
  ex : ExC K C D
  ini : PySem.W.findIn K (.ref C) "__init__" = some (some (.ref fI))
  fn : PySem.W.typeIn K (.ref fI) = some (.type "function")
  xf : XfC K C
  te : PySem.W.exmOne K (.ref C) (.ref C) = some true
theorem exB_ok {K : PySem.W.Frag} {x pe : Str} (h : exB K x pe = true) : ExOk K (ga K x) (ga K pe) (ma K (ga K pe) "__init__") := by
  obtain ⟨h1, h⟩ := ba h
  obtain ⟨h2, h⟩ := ba h
  obtain ⟨h3, h⟩ := ba h
  obtain ⟨h4, h⟩ := ba h
  obtain ⟨h5, h⟩ := ba h
  obtain ⟨h6, h⟩ := ba h
  obtain ⟨h7, h⟩ := ba h
  obtain ⟨h8, h⟩ := ba h
  obtain ⟨h9, h⟩ := ba h
  obtain ⟨h10, h⟩ := ba h
  obtain ⟨h11, h⟩ := ba h
  obtain ⟨h12, h13⟩ := ba h
  exact ⟨⟨⟨oexB_ok h1, eqO_ok h2, of_decide_eq_true h3, of_decide_eq_true h4, h5⟩, eqO_ok h6, eqO_ok h7, of_decide_eq_true h8, of_decide_eq_true h9⟩, eqO_ok h10, of_decide_eq_true h11, xfB_ok h12, of_decide_eq_true h13⟩
/-! ### the __init__ -/
abbrev FnI : Type := Option (Str × Str × Arguments × FuncBody × Scope × Addr × List Str × Addr)
def fnI (K : PySem.W.Frag) (f : Addr) : FnI := match K.lookup f with
  | some ⟨_, _, .func fd, _⟩ => some (fd.name, fd.qualname, fd.params, fd.body, fd.scope, fd.globals, fd.closure.map (·.1), fd.builtins)
  | _ => none
def iniBo (P : Program) (K : PySem.W.Frag) (pe qual : Str) : Bool := (match K.lookup (ma K (ga K pe) "__init__") with
  | some ⟨_, _, .func fd, _⟩ => PySem.W.codeIn K fd.code qual && ((match fd.code with
    | .ref c => (match K.lookup c with
      | some ⟨_, _, .fields vs, _⟩ => (match (vs[2]? : Option Value) with
        | some (Value.str f _) => P.main.file == f
        | _ => false)
      | _ => false)
    | _ => false) && ((match fd.closure with
    | [(_, c)] => (match K.lookup c with
      | some ⟨_, _, .cell (some (.ref D)), _⟩ => decide (D = ga K pe)
      | _ => false)
    | _ => false) && dflB K fd.defaults [.non]))
  | _ => false) && ((PySem.W.clsIn K (ga K pe)).isSome && (!(P.main.scope.names.lookup ("super" : Str)).isSome && eqO (PySem.W.nsIn K PySem.cStatics "thirdparty.any") (some none)))
theorem iniBo_ok {P : Program} {K : PySem.W.Frag} {pe qual : Str} {params : Arguments} {body : List Stmt} {scope : Scope} (h : iniBo P K pe qual = true) (e : fnI K (ma K (ga K pe) "__init__") = (some ("__init__", qual, params, .stmts body, scope, mainGlobals, ["__class__"], builtinsNs) : FnI)) :
    ∃ fd, IniF P K (ga K pe) (ma K (ga K pe) "__init__") qual params body scope fd := by
  obtain ⟨h1, h⟩ := ba h
  obtain ⟨h2, h⟩ := ba h
  obtain ⟨h3, h4⟩ := ba h
  unfold fnI at e
  cases q : K.lookup (ma K (ga K pe) "__init__") with
  | none => rw [q] at h1; cases h1
  | some o =>
    obtain ⟨oc, od, dt, osl⟩ := o
    rw [q] at h1 e
    cases dt with
    | func fd =>
      obtain ⟨n1, n2, n3, n4, n5, n6, n7, n8, n9, n10, n11, n12, n13, n14, n15⟩ := fd
      have e2 : (some (n1, n2, n3, n4, n5, n6, n7.map (·.1), n15) : FnI) = (some ("__init__", qual, params, .stmts body, scope, mainGlobals, ["__class__"], builtinsNs) : FnI) := e
      simp only [Option.some.injEq, Prod.mk.injEq] at e2
      obtain ⟨g1, g2, g3, g4, g5, g6, g7, g8⟩ := e2
      subst g1 g2 g3 g4 g5 g6 g8
      obtain ⟨k1, k⟩ := ba h1
      obtain ⟨k2, k34⟩ := ba k
      obtain ⟨k3, k4⟩ := ba k34
      cases n13 with
      | ref c =>
        simp only [] at k2
        cases q2 : K.lookup c with
        | none => rw [q2] at k2; cases k2
        | some o2 =>
          obtain ⟨a1, a2, a3, a4⟩ := o2
          rw [q2] at k2
          cases a3 with
          | fields vs =>
            simp only [] at k2
            cases q3 : vs[2]? with
            | none => rw [q3] at k2; cases k2
            | some z =>
              rw [q3] at k2
              cases z with
              | str fl tf =>
                match n7, g7, k3 with
                | [(y, cc)], g7, k3 =>
                  have ey : y = "__class__" := by simpa using g7
                  subst ey
                  simp only [] at k3
                  cases q4 : K.lookup cc with
                  | none => rw [q4] at k3; cases k3
                  | some o4 =>
                    obtain ⟨b1, b2, b3, b4⟩ := o4
                    rw [q4] at k3
                    cases b3 with
                    | cell v =>
                      cases v with
                      | none => cases k3
                      | some v =>
                        cases v with
                        | ref D =>
                          have eD : D = ga K pe := of_decide_eq_true k3
                          subst eD
                          exact ⟨_, ⟨oc, od, osl, n8, n9, n10, n11, n12, n14, cc, c, a1, a2, a4, vs, fl, tf, b1, b2, b4, rfl, q, k1, q2, q3, k2, q4⟩, Option.isSome_iff_exists.mp h2, by simpa using h3, eqO_ok h4, dflB_ok k4⟩
                        | _ => cases k3
                    | _ => cases k3
              | _ => cases k2
          | _ => cases k2
      | _ => cases k2
    | _ => cases h1
/-! ### the Hook -/
def asX (g : Addr → Option Obj) : Nat → List Addr
  | 0 => [mainGlobals, PySem.cStatics]
  | n + 1 => growD g (asX g n)
abbrev AlX : Type := (AlD × Bool) × FnI
def obsX (n : Nat) (fa : List Fa) (fn : List DefD) (ex : PySem.W.Frag → Bool) (pe : Str) (g : Addr → Option Obj) : AlX := ((obsD fa fn (frG g (asX g n)), ex (frG g (asX g n))), fnI (frG g (asX g n)) (ma (frG g (asX g n)) (ga (frG g (asX g n)) pe) "__init__"))
def hookX (n : Nat) (fa : List Fa) (fn : List DefD) (ex : PySem.W.Frag → Bool) (pe : Str) (fi : FnI) : PySem.W.Hook where
  α := AlX
  obs := fun s => obsX n fa fn ex pe s.heap.get?
  val := fun _ => ((valD fn, true), fi)
  says := fun _ h => ∃ K : PySem.W.Frag, K.In h ∧ SaysD fa fn K ∧ ex K = true ∧ fnI K (ma K (ga K pe) "__init__") = fi
  of := fun _ _ e => ⟨_, frG_in, congrArg (fun z : AlX => z.1.1) e, congrArg (fun z : AlX => z.1.2) e, congrArg (fun z : AlX => z.2) e⟩
  keeps := fun _ _ _ ⟨K, hK, c⟩ k => ⟨K, PySem.W.Frag.In.keeps hK k, c⟩
theorem obsX_eq {n : Nat} {fa : List Fa} {fn : List DefD} {ex : PySem.W.Frag → Bool} {pe : Str} {fi : FnI} {g : Addr → Option Obj} {s : Shared} (h : ∀ a, g a = s.heap.get? a) : obsX n fa fn ex pe g = (hookX n fa fn ex pe fi).obs s := by
  have e : g = s.heap.get? := funext h
  rw [e] <;> rfl
/-- a constant of the module -/
theorem gl_int {K : PySem.W.Frag} {h : Heap} {mg : Str → Option Value} (X : K.In h) (G : h.Ns mainGlobals mg) {x : Str} {i : Int} (c : (Fa.int x i).ok K = true) : DL.GlD K mg x (.int i) := by
  obtain ⟨t, e⟩ := int_ok X G c
  exact ⟨_, .int i, e, ⟨t, rfl⟩, fun H => DL.rp_int.mpr rfl⟩
theorem gl_str {K : PySem.W.Frag} {h : Heap} {mg : Str → Option Value} (X : K.In h) (G : h.Ns mainGlobals mg) {x z : Str} (c : (Fa.str x z).ok K = true) : DL.GlD K mg x (.str z) := by
  obtain ⟨t, e⟩ := str_ok X G c
  exact ⟨_, .str z, e, ⟨t, rfl⟩, fun H => DL.rp_str.mpr rfl⟩
end EXH
set_option Elab.async false
set_option linter.all false
set_option maxRecDepth 100000
set_option autoImplicit false
/-! K90s: what the defs of k90 compute, in plain words. -/
namespace K90
open PySem PySem.Spec PyProof.Rows L2 DL
abbrev Fr := Int × Int
def frD (f : Fr) : PyData := .tuple [.int f.1, .int f.2]
def low (a b : Int) : Fr := (a / (Int.gcd a b : Nat), b / (Int.gcd a b : Nat))
def mulF (x y : Fr) : Fr := low (x.1 * y.1) (x.2 * y.2)
def isW : PyData → Bool | .int _ => true | _ => false
def copr (f : Fr) : Bool := Int.gcd f.1 f.2 == 1
def num (i : Int) : Str := Str.ofString (toString i)
def fw (f : Fr) : Str := if f.2 = 1 then num f.1 else num f.1 ++ ("/" : Str) ++ num f.2
def OkF (f : Fr) : Prop := f.1.natAbs < 10 ^ 9 ∧ 0 < f.2 ∧ f.2.natAbs < 10 ^ 9
def rowD (r : List Fr) : PyData := .list (r.map frD)
def rowsD (rs : List (List Fr)) : PyData := .list (rs.map rowD)
def optF : Option Fr → PyData | none => .none | some f => frD f
def optR : Option (List Fr) → PyData | none => .none | some f => rowD f
def optI : Option Int → PyData | none => .none | some f => .int f
def digC (c : Nat) : Bool := decide (48 ≤ c ∧ c ≤ 57)
def digB (w : Str) : Bool := decide (1 ≤ w.length ∧ w.length ≤ 9) && (codes w).all digC && (decide ((codes w).head? ≠ some 48) || decide (w.length = 1))
def neg (w : Str) : Bool := decide (cutS w none (some 1) = ("-" : Str))
def bodyW (w : Str) : Str := if neg w = true then cutS w (some 1) none else w
def val (p : Str) : Int := (intText? p).getD 0
def bad (ps : List Str) : Bool := decide (2 < ps.length) || ps.any (fun p => !digB p) || (decide (ps.length = 2) && decide (ps.getLast? = some ("0" : Str)))
def undr (ps : List Str) : Int := if ps.length = 2 then val (ps.getD 1 "") else 1
def topp (w : Str) (ps : List Str) : Int := if neg w = true then -(val (ps.getD 0 "")) else val (ps.getD 0 "")
def ft (w : Str) : Option Fr :=
  let ps := Txt.split (bodyW w) ("/" : Str)
  if bad ps = true then none else if fw (low (topp w ps) (undr ps)) = w then some (low (topp w ps) (undr ps)) else none
def rt (l : Str) : Option (List Fr) :=
  let fs := (Txt.split l (" " : Str)).map ft
  if fs.all (·.isSome) = true then some (fs.filterMap id) else none
def dimT (l : Str) : Option Int := if l = ("dimensions 1" : Str) then some 1 else if l = ("dimensions 2" : Str) then some 2 else if l = ("dimensions 3" : Str) then some 3 else none
def okRow (m : Nat) (r : List Fr) : Bool := decide (r.length = m + 1) && (r.take m).any (fun f => decide (f.1 ≠ 0))
def at0 (r : List Fr) (i : Nat) : Fr := r.getD i (0, 1)
def sameR (x y : List Fr) : Bool := (List.range x.length).all fun l => (List.range l).all fun e => decide (mulF (at0 x e) (at0 y l) = mulF (at0 x l) (at0 y e))
def canF (m : Nat) (rows : List (List Fr)) (r : List Fr) : Bool := okRow m r && decide (rows.length ≠ 8) && rows.all (fun o => !sameR o r)
/-- the number of the first line that fails -/
def wr : Option Nat → List (List Fr) → Nat → List Str → Option Nat
  | _, _, _, [] => none
  | none, rows, n, l :: ls => match dimT l with
    | none => some n
    | some k => wr (some k.toNat) rows (n + 1) ls
  | some m, rows, n, l :: ls => match rt l with
    | none => some n
    | some r => if canF m rows r = true then wr (some m) (rows ++ [r]) (n + 1) ls else some n
def optN : Option Nat → PyData | none => .none | some n => .int n
def linesOf (t : Str) : List Str := Txt.split t ("\n" : Str)
def wrongBy (t : Str) : Option Nat := match wr none [] 0 (linesOf t).dropLast with
  | some n => some n
  | none => if (linesOf t).getLast? ≠ some ("" : Str) ∨ (linesOf t).length < 3 then some ((linesOf t).length - 1) else none
/-- texts in reach -/
def TxOk (t : Str) : Prop := t.length ≤ 100000 ∧ ∀ c ∈ codes t, c < 1114112
def RowOk (m : Nat) (r : List Fr) : Prop := r.length = m + 1 ∧ ∀ f ∈ r, OkF f ∧ copr f = true
/-! ### promises -/
def d_is_whole : DSp := fun as R => ∃ v, as = [.dt v] ∧ ret (.bool (isW v)) R
def d_common_divisor : DSp := fun as R => ∃ a b, as = [.dt (.int a), .dt (.int b)] ∧ ret (.int (Int.gcd a b : Nat)) R
def d_lowest : DSp := fun as R => ∃ a b, as = [.dt (.int a), .dt (.int b)] ∧ 0 < b ∧ a.natAbs < 2 ^ 4000 ∧ b.natAbs < 2 ^ 4000 ∧ ret (frD (low a b)) R
def d_is_fraction : DSp := fun as R => ∃ f, as = [.dt (frD f)] ∧ f.1.natAbs < 2 ^ 4000 ∧ f.2.natAbs < 2 ^ 4000 ∧ ret (.bool (decide (0 < f.2) && copr f)) R
def d_are_fractions : DSp := fun as R => ∃ r many, as = [.dt (rowD r), .dt (.int many)] ∧ r.length ≤ sizeLine ∧ (∀ f ∈ r, f.1.natAbs < 2 ^ 4000 ∧ f.2.natAbs < 2 ^ 4000) ∧ ret (.bool (decide ((r.length : Int) = many) && r.all fun f => decide (0 < f.2) && copr f)) R
def d_times : DSp := fun as R => ∃ x y, as = [.dt (frD x), .dt (frD y)] ∧ OkF x ∧ OkF y ∧ ret (frD (mulF x y)) R
def d_is_plane_by : DSp := fun as R => ∃ (m : Nat) (r : List Fr), as = [.dt (.int m), .dt (rowD r)] ∧ m ≤ 1000 ∧ r.length ≤ sizeLine ∧ (∀ f ∈ r, OkF f ∧ copr f = true) ∧ ret (.bool (okRow m r)) R
def d_are_same : DSp := fun as R => ∃ x y, as = [.dt (rowD x), .dt (rowD y)] ∧ x.length = y.length ∧ x.length ≤ 1000 ∧ (∀ f ∈ x, OkF f) ∧ (∀ f ∈ y, OkF f) ∧ ret (.bool (sameR x y)) R
def d_fraction_words : DSp := fun as R => ∃ f, as = [.dt (frD f)] ∧ f.1.natAbs < 10 ^ 30 ∧ f.2.natAbs < 10 ^ 30 ∧ ret (.str (fw f)) R
def d_is_digits : DSp := fun as R => ∃ w : Str, as = [.dt (.str w)] ∧ w.length ≤ 200000 ∧ (∀ c ∈ codes w, c < 1114112) ∧ ret (.bool (digB w)) R
def d_fraction_told : DSp := fun as R => ∃ w : Str, as = [.dt (.str w)] ∧ w.length ≤ 200000 ∧ (∀ c ∈ codes w, c < 1114112) ∧ ret (optF (ft w)) R
def d_row_told : DSp := fun as R => ∃ w : Str, as = [.dt (.str w)] ∧ w.length ≤ 200000 ∧ (∀ c ∈ codes w, c < 1114112) ∧ ret (optR (rt w)) R
def d_dimensions_told : DSp := fun as R => ∃ w : Str, as = [.dt (.str w)] ∧ w.length ≤ 200000 ∧ ret (optI (dimT w)) R
def d_can_follow : DSp := fun as R => ∃ (m : Nat) (rows : List (List Fr)) (o : Option (List Fr)), as = [.dt (.int m), .dt (rowsD rows), .dt (optR o)] ∧ m ≤ 3 ∧ rows.length ≤ 8 ∧ (∀ r ∈ rows, RowOk m r) ∧
  (∀ r, o = some r → r.length ≤ sizeLine ∧ ∀ f ∈ r, OkF f ∧ copr f = true) ∧ ret (.bool (match o with | none => false | some r => canF m rows r)) R
def LsOk (ls : List Str) : Prop := ls.length ≤ 200000 ∧ ∀ l ∈ ls, l.length ≤ 200000 ∧ ∀ c ∈ codes l, c < 1114112
def d_wrong_in : DSp := fun as R => ∃ ls : List Str, as = [.dt (.list (ls.map .str))] ∧ LsOk ls ∧ ret (optN (wr none [] 0 ls)) R
def d_wrong_by : DSp := fun as R => ∃ t : Str, as = [.dt (.str t)] ∧ TxOk t ∧ ret (optN (wrongBy t)) R
/-! ### the law's own -/
def d__law_hash : DSp := fun as R => ∃ a b : Int, as = [.dt (.int a), .dt (.int b)] ∧ a.natAbs < 2 ^ 100 ∧ b.natAbs < 2 ^ 100 ∧ ∀ r : Int, 0 ≤ r → r < 2147483647 → ret (.int r) R
/-- the drawer: its three numbers -/
def Gen (n : Nat) (g : List PyData) : Prop := ∃ a b c : Int, g = [.int a, .int b, .int c] ∧ 0 ≤ a ∧ a.natAbs < 10 ^ 600 ∧ 0 ≤ b ∧ b < 2147483647 ∧ 0 ≤ c ∧ c ≤ 1000000 + n
def d__law_random : DSp := fun as R => ∃ (n : Nat) (g : List PyData) (b : Int), as = [.pw g, .dt (.int b)] ∧ n ≤ 100000 ∧ Gen n g ∧ 0 < b ∧ b < 2 ^ 20 ∧ ∀ (r : Int) g', 0 ≤ r → r < b → Gen (n + 1) g' → R (.dt (.int r)) g'
def d__law_cell : DSp := fun as R => ∃ (ns : List Int) (i : Int), as = [.dt (.list (ns.map .int)), .dt (.int i)] ∧ 0 ≤ i ∧ ns.length ≤ 1000 ∧ ∀ r : Int, ret (.int r) R
def d__law_generator : DSp := fun as R => ∃ (ns : List Int) (i : Int), as = [.dt (.list (ns.map .int)), .dt (.int i)] ∧ 0 ≤ i ∧ i < 1000 ∧ ns.length ≤ 1000 ∧ ∀ g ys, Gen 0 g → R (.ow g) ys
def d__law_pick : DSp := fun as R => ∃ (n : Nat) (g xs : List PyData), as = [.pw g, .dt (.list xs)] ∧ n ≤ 100000 ∧ Gen n g ∧ xs ≠ [] ∧ xs.length < 1000 ∧ ∀ x ∈ xs, ∀ g', Gen (n + 1) g' → R (.dt x) g'
abbrev d__law_lowest : DSp := d_lowest
abbrev d__law_times : DSp := d_times
abbrev d__law_is_fraction : DSp := d_is_fraction
abbrev d__law_alike : DSp := fun as R => ∃ x y, as = [.dt (rowD x), .dt (rowD y)] ∧ x.length = y.length ∧ x.length ≤ 1000 ∧ (∀ f ∈ x, OkF f) ∧ (∀ f ∈ y, OkF f) ∧ ret (.bool (sameR y x)) R
/-- drawn numbers are small -/
def SmF (f : Fr) : Prop := f.1.natAbs < 10 ∧ 0 < f.2 ∧ f.2 ≤ 2
def SmR (m : Nat) (r : List Fr) : Prop := r.length = m + 1 ∧ ∀ f ∈ r, SmF f
def d__law_plane : DSp := fun as R => ∃ (n m : Nat) (g : List PyData), as = [.pw g, .dt (.int m)] ∧ n ≤ 90000 ∧ Gen n g ∧ 1 ≤ m ∧ m ≤ 3 ∧ ∀ r g', SmR m r → Gen (n + 10) g' → R (.ow (r.map frD)) g'
def plD (m : Nat) (rows : List (List Fr)) : PyData := .tuple [.str "planes", .int m, rowsD rows]
def SmP (m : Nat) (rows : List (List Fr)) : Prop := 1 ≤ m ∧ m ≤ 3 ∧ 1 ≤ rows.length ∧ rows.length ≤ 5 ∧ ∀ r ∈ rows, SmR m r
def d__law_planes : DSp := fun as R => ∃ (n : Nat) (g : List PyData), as = [.pw g] ∧ n ≤ 80000 ∧ Gen n g ∧ ∀ m rows g', SmP m rows → Gen (n + 100) g' → R (.dt (plD m rows)) g'
abbrev d__law_word : DSp := d_fraction_words
def Sm2 (f : Fr) : Prop := f.1.natAbs < 1000 ∧ 0 < f.2 ∧ f.2.natAbs < 1000
def d__law_words : DSp := fun as R => ∃ r : List Fr, as = [.dt (rowD r)] ∧ r.length ≤ 4 ∧ (∀ f ∈ r, Sm2 f) ∧ ∀ z : Str, z.length ≤ 300 → (∀ c ∈ codes z, c < 1114112) → ret (.str z) R
def d__law_text : DSp := fun as R => ∃ m rows, as = [.dt (plD m rows)] ∧ SmP m rows ∧ ∀ z u w : Str, z = u ++ ("\n" : Str) ++ w → z.length ≤ 2000 → (∀ c ∈ codes z, c < 1114112) → ret (.str z) R
def d__law_is_row : DSp := fun as R => ∃ r many, as = [.dt (rowD r), .dt (.int many)] ∧ r.length ≤ sizeLine ∧ (∀ f ∈ r, f.1.natAbs < 2 ^ 4000 ∧ f.2.natAbs < 2 ^ 4000) ∧ ret (.bool (decide ((r.length : Int) = many) && r.all fun f => decide (0 < f.2) && copr f)) R
def d__law_can_put : DSp := fun as R => ∃ (md : PyData) (m : Nat) (rows : List (List Fr)) (r : List Fr), as = [.dt (.tuple [md, .int m, rowsD rows]), .dt (rowD r)] ∧ m ≤ 3 ∧ rows.length ≤ 8 ∧ (∀ r ∈ rows, RowOk m r) ∧ r.length ≤ sizeLine ∧ (∀ f ∈ r, OkF f ∧ copr f = true) ∧ ret (.bool (canF m rows r)) R
abbrev d__law_digits : DSp := d_is_digits
abbrev d__law_number : DSp := d_fraction_told
abbrev d__law_wrong : DSp := d_wrong_by
def d__law_texts : DSp := fun as R => ∃ (n m : Nat) (g : List PyData) (rows : List (List Fr)), as = [.pw g, .dt (plD m rows)] ∧ n ≤ 70000 ∧ Gen n g ∧ SmP m rows ∧ ∀ (zs : List Str) g', zs.length ≤ 1000 → (∀ z ∈ zs, TxOk z) → R (.ow (zs.map .str)) g'
end K90
set_option Elab.async false
set_option linter.all false
set_option maxRecDepth 100000
set_option autoImplicit false
/-! printed by gen.py: scopes, q-terms, derivations -/
namespace K90
open PySem PySem.Spec PyProof.Rows L2 DL
open C8 (Cal)
abbrev top (i : Nat) : Stmt := PySem.Challenge.pw_planescut_k90_whole_wrong_lines_of_arran.main.body.getD i (.Pass ⟨0, 0, 0, 0⟩)
structure Gm (K : PySem.W.Frag) (mg : Str → Option Value) : Prop where
  b_abs : mg "abs" = none
  b_all : mg "all" = none
  b_any : mg "any" = none
  b_bool : mg "bool" = none
  b_enumerate : mg "enumerate" = none
  b_int : mg "int" = none
  b_isinstance : mg "isinstance" = none
  b_len : mg "len" = none
  b_list : mg "list" = none
  b_max : mg "max" = none
  b_range : mg "range" = none
  b_str : mg "str" = none
  b_sum : mg "sum" = none
  b_tuple : mg "tuple" = none
  c_END : GlD K mg "END" (.str "\n")
  c_FIGURES : GlD K mg "FIGURES" (.int 9)
  c_MOST_DIMENSIONS : GlD K mg "MOST_DIMENSIONS" (.int 3)
  c_MOST_PLANES : GlD K mg "MOST_PLANES" (.int 8)
  c_NOUGHT : GlD K mg "NOUGHT" (.tuple [(.int 0), (.int 1)])
abbrev N_is_whole : List Str := ["value"]
abbrev P_is_whole : List Str := ["value"]
theorem sc_is_whole : FnScope N_is_whole P_is_whole (defScope (top 4)) := ⟨rfl, rfl, rfl, by decide +kernel, rfl, by decide +kernel, by decide +kernel⟩
def q_is_whole : QS := qRet (qAndV (qIsi "int" (qVar 0)) (qNotV (qIsi "bool" (qVar 0))))
theorem der_is_whole {P : Program} {w : World} {K : PySem.W.Frag} {mg : Str → Option Value} {base : Heap} (G : Gm K mg) {f : Addr} {cdv : Value} {A : Around} {outer : List Env} {s : Shared} {H : Hp} {E : XK} (hr : Room 0 (A.deeper (envOfC "is_whole" (defScope (top 4)) s.heap.objs.size f cdv))) : ∃ t, DSs (cxOf CX0 P w K mg base N_is_whole "is_whole" (defScope (top 4)) f cdv A outer s H E).nox (defBody (top 4)) t q_is_whole := ⟨_, dss_one (ds_ret (dq_and (dq_isi (n := "int") rfl G.b_isinstance rfl G.b_int (by decide +kernel) (dq_var 0 (pv 0))) (dq_one (dq_not (dq_isi (n := "bool") rfl G.b_isinstance rfl G.b_bool (by decide +kernel) (dq_var 0 (pv 0)))))))⟩
abbrev N_common_divisor : List Str := ["one", "other"]
abbrev P_common_divisor : List Str := ["one", "other"]
theorem sc_common_divisor : FnScope N_common_divisor P_common_divisor (defScope (top 5)) := ⟨rfl, rfl, rfl, by decide +kernel, rfl, by decide +kernel, by decide +kernel⟩
def q_common_divisor : QS := qSeq (qPar (qCB kAbs (qCons (qVar 0) (qNil))) (qCB kAbs (qCons (qVar 1) (qNil))) 0 1) (qSeq (qWhile (qTest (q2 kGt (qVar 1) (qC (.int 0)))) (qPar (qVar 1) (q2 kMod (qVar 0) (qVar 1)) 0 1)) (qRet (qVar 0)))
theorem der_common_divisor {P : Program} {w : World} {K : PySem.W.Frag} {mg : Str → Option Value} {base : Heap} (G : Gm K mg) {f : Addr} {cdv : Value} {A : Around} {outer : List Env} {s : Shared} {H : Hp} {E : XK} (hr : Room 0 (A.deeper (envOfC "common_divisor" (defScope (top 5)) s.heap.objs.size f cdv))) : ∃ t, DSs (cxOf CX0 P w K mg base N_common_divisor "common_divisor" (defScope (top 5)) f cdv A outer s H E).nox (defBody (top 5)) t q_common_divisor := ⟨_, dss_cons (ds_set2 0 1 rfl sc_common_divisor.nd (dq_callB cr_abs oa_abs rfl G.b_abs (by decide +kernel) (da_cons (dq_var 0 (pv 0)) (da_nil))) (dq_callB cr_abs oa_abs rfl G.b_abs (by decide +kernel) (da_cons (dq_var 1 (pv 1)) (da_nil)))) (dss_cons (ds_while PassesOwn.never (dt_cmp op_gt o2_gt (dq_var 1 (pv 1)) (dq_int) (nomark _)) (dss_one (ds_set2 0 1 rfl sc_common_divisor.nd (dq_var 1 (pv 1)) (dq_mod (dq_var 0 (pv 0)) (dq_var 1 (pv 1)))))) (dss_one (ds_ret (dq_var 0 (pv 0)))))⟩
abbrev N_lowest : List Str := ["top", "under", "common"]
abbrev P_lowest : List Str := ["top", "under"]
theorem sc_lowest : FnScope N_lowest P_lowest (defScope (top 6)) := ⟨rfl, rfl, rfl, by decide +kernel, rfl, by decide +kernel, by decide +kernel⟩
def q_lowest : QS := qSeq (qIfS (qTest (q2 kLt (qVar 1) (qC (.int 0)))) (qPar (q1 kNeg (qVar 0)) (q1 kNeg (qVar 1)) 0 1) (qNext)) (qSeq (qAsg (qCall d_common_divisor (qCons (qVar 0) (qCons (qVar 1) (qNil)))) 2) (qRet (qTup (qCons (q2 kFdiv (qVar 0) (qVar 2)) (qCons (q2 kFdiv (qVar 1) (qVar 2)) (qNil))))))
theorem der_lowest {P : Program} {w : World} {K : PySem.W.Frag} {mg : Str → Option Value} {base : Heap} (G : Gm K mg) (c_common_divisor : Cal P w K mg base 1 "common_divisor" (toSp K d_common_divisor) []) {f : Addr} {cdv : Value} {A : Around} {outer : List Env} {s : Shared} {H : Hp} {E : XK} (hr : Room 1 (A.deeper (envOfC "lowest" (defScope (top 6)) s.heap.objs.size f cdv))) : ∃ t, DSs (cxOf CX0 P w K mg base N_lowest "lowest" (defScope (top 6)) f cdv A outer s H E).nox (defBody (top 6)) t q_lowest := ⟨_, dss_cons (ds_if (dt_cmp op_lt o2_lt (dq_var 1 (pv 1)) (dq_int) (nomark _)) (dss_one (ds_set2 0 1 rfl sc_lowest.nd (dq_neg (dq_var 0 (pv 0))) (dq_neg (dq_var 1 (pv 1))))) (dss_nil)) (dss_cons (ds_set 2 sc_lowest.nd (dq_c c_common_divisor hr (by decide) rfl (da_cons (dq_var 0 (pv 0)) (da_cons (dq_var 1 (pv 1)) (da_nil))))) (dss_one (ds_ret (dq_tup (da_cons (dq_fdiv (dq_var 0 (pv 0)) (dq_var 2 (pv 2))) (da_cons (dq_fdiv (dq_var 1 (pv 1)) (dq_var 2 (pv 2))) (da_nil)))))))⟩
abbrev N_is_fraction : List Str := ["value"]
abbrev P_is_fraction : List Str := ["value"]
theorem sc_is_fraction : FnScope N_is_fraction P_is_fraction (defScope (top 7)) := ⟨rfl, rfl, rfl, by decide +kernel, rfl, by decide +kernel, by decide +kernel⟩
def q_is_fraction : QS := qSeq (qIfS (qOr (qNot (qTest (qIsi "tuple" (qVar 0)))) (qOr (qTest (q2 kNe (qCB kLen (qCons (qVar 0) (qNil))) (qC (.int 2)))) (qOr (qNot (qTest (qCall d_is_whole (qCons (q2 ixq (qVar 0) (qC (.int 0))) (qNil))))) (qNot (qTest (qCall d_is_whole (qCons (q2 ixq (qVar 0) (qC (.int 1))) (qNil)))))))) (qRet (qC (.bool false))) (qNext)) (qRet (qAndV (q2 kGt (q2 ixq (qVar 0) (qC (.int 1))) (qC (.int 0))) (q2 kEq (qCall d_common_divisor (qCons (q2 ixq (qVar 0) (qC (.int 0))) (qCons (q2 ixq (qVar 0) (qC (.int 1))) (qNil)))) (qC (.int 1)))))
theorem der_is_fraction {P : Program} {w : World} {K : PySem.W.Frag} {mg : Str → Option Value} {base : Heap} (G : Gm K mg) (c_is_whole : Cal P w K mg base 1 "is_whole" (toSp K d_is_whole) []) (c_common_divisor : Cal P w K mg base 1 "common_divisor" (toSp K d_common_divisor) []) {f : Addr} {cdv : Value} {A : Around} {outer : List Env} {s : Shared} {H : Hp} {E : XK} (hr : Room 1 (A.deeper (envOfC "is_fraction" (defScope (top 7)) s.heap.objs.size f cdv))) : ∃ t, DSs (cxOf CX0 P w K mg base N_is_fraction "is_fraction" (defScope (top 7)) f cdv A outer s H E).nox (defBody (top 7)) t q_is_fraction := ⟨_, dss_cons (ds_if (DW.dt (dw_or (dt_not (dt_val (dq_isi (n := "tuple") rfl G.b_isinstance rfl G.b_tuple (by decide +kernel) (dq_var 0 (pv 0))))) (dw_or (dt_cmp (op_neA hr.units) o2_ne (dq_callB cr_len oa_len rfl G.b_len (by decide +kernel) (da_cons (dq_var 0 (pv 0)) (da_nil))) (dq_int) (nomark _)) (dw_or (dt_not (dt_val (dq_c c_is_whole hr (by decide) rfl (da_cons (dq_ix (dq_var 0 (pv 0)) (dq_int)) (da_nil))))) (dw_or1 (dt_not (dt_val (dq_c c_is_whole hr (by decide) rfl (da_cons (dq_ix (dq_var 0 (pv 0)) (dq_int)) (da_nil)))))))))) (dss_one (ds_ret (dq_bl))) (dss_nil)) (dss_one (ds_ret (dq_and (dq_cmp op_gt o2_gt (dq_ix (dq_var 0 (pv 0)) (dq_int)) (dq_int) (nomark _)) (dq_one (dq_cmp (op_eqA hr.units) o2_eq (dq_c c_common_divisor hr (by decide) rfl (da_cons (dq_ix (dq_var 0 (pv 0)) (dq_int)) (da_cons (dq_ix (dq_var 0 (pv 0)) (dq_int)) (da_nil)))) (dq_int) (nomark _))))))⟩
abbrev N_are_fractions : List Str := ["value", "many", "one"]
abbrev P_are_fractions : List Str := ["value", "many"]
theorem sc_are_fractions : FnScope N_are_fractions P_are_fractions (defScope (top 8)) := ⟨rfl, rfl, rfl, by decide +kernel, rfl, by decide +kernel, by decide +kernel⟩
def q_are_fractions : QS := qRet (qAndV (qIsi "list" (qVar 0)) (qAndV (q2 kEq (qCB kLen (qCons (qVar 0) (qNil))) (qVar 1)) (qCB kAll (qCons (qLc (qIL (qVar 0)) (qgN 2) (qYes) (qCall d_is_fraction (qCons (qVar 2) (qNil))) [2]) (qNil)))))
theorem der_are_fractions {P : Program} {w : World} {K : PySem.W.Frag} {mg : Str → Option Value} {base : Heap} (G : Gm K mg) (c_is_fraction : Cal P w K mg base 2 "is_fraction" (toSp K d_is_fraction) []) {f : Addr} {cdv : Value} {A : Around} {outer : List Env} {s : Shared} {H : Hp} {E : XK} (hr : Room 2 (A.deeper (envOfC "are_fractions" (defScope (top 8)) s.heap.objs.size f cdv))) : ∃ t, DSs (cxOf CX0 P w K mg base N_are_fractions "are_fractions" (defScope (top 8)) f cdv A outer s H E).nox (defBody (top 8)) t q_are_fractions := ⟨_, dss_one (ds_ret (dq_and (dq_isi (n := "list") rfl G.b_isinstance rfl G.b_list (by decide +kernel) (dq_var 0 (pv 0))) (dq_and (dq_cmp (op_eqA hr.units) o2_eq (dq_callB cr_len oa_len rfl G.b_len (by decide +kernel) (da_cons (dq_var 0 (pv 0)) (da_nil))) (dq_var 1 (pv 1)) (nomark _)) (dq_one (dq_callB (cr_all rfl) oa_all rfl G.b_all (by decide +kernel) (da_cons (dq_lc (own := [("one", 2)]) (tt := tYes) (te := tCall (toSp K d_is_fraction) [] E0 (tCons (tVar 2) (tNil))) (g := gName 2) rfl sc_are_fractions.nd (di_list (dq_var 0 (pv 0))) (blkOk_by (N := N_are_fractions) (sc := defScope (top 8)) (own := [("one", 2)]) (by decide +kernel)) (fun _ _ _ _ _ => dg_name 2 (pg_name (i := 2) sc_are_fractions.nd rfl (by first | exact .inl rfl | exact .inr rfl))) (fun _ _ _ _ _ => dts_nil) (fun _ _ _ _ _ => dq_c c_is_fraction hr (by decide) rfl (da_cons (dq_var 2 (pv 2)) (da_nil)))) (da_nil)))))))⟩
abbrev N_times : List Str := ["one", "other"]
abbrev P_times : List Str := ["one", "other"]
theorem sc_times : FnScope N_times P_times (defScope (top 9)) := ⟨rfl, rfl, rfl, by decide +kernel, rfl, by decide +kernel, by decide +kernel⟩
def q_times : QS := qRet (qCall d_lowest (qCons (q2 kMul (q2 ixq (qVar 0) (qC (.int 0))) (q2 ixq (qVar 1) (qC (.int 0)))) (qCons (q2 kMul (q2 ixq (qVar 0) (qC (.int 1))) (q2 ixq (qVar 1) (qC (.int 1)))) (qNil))))
theorem der_times {P : Program} {w : World} {K : PySem.W.Frag} {mg : Str → Option Value} {base : Heap} (G : Gm K mg) (c_lowest : Cal P w K mg base 2 "lowest" (toSp K d_lowest) []) {f : Addr} {cdv : Value} {A : Around} {outer : List Env} {s : Shared} {H : Hp} {E : XK} (hr : Room 2 (A.deeper (envOfC "times" (defScope (top 9)) s.heap.objs.size f cdv))) : ∃ t, DSs (cxOf CX0 P w K mg base N_times "times" (defScope (top 9)) f cdv A outer s H E).nox (defBody (top 9)) t q_times := ⟨_, dss_one (ds_ret (dq_c c_lowest hr (by decide) rfl (da_cons (dq_mulA (dq_ix (dq_var 0 (pv 0)) (dq_int)) (dq_ix (dq_var 1 (pv 1)) (dq_int))) (da_cons (dq_mulA (dq_ix (dq_var 0 (pv 0)) (dq_int)) (dq_ix (dq_var 1 (pv 1)) (dq_int))) (da_nil)))))⟩
abbrev N_is_plane_by : List Str := ["many", "value", "one"]
abbrev P_is_plane_by : List Str := ["many", "value"]
theorem sc_is_plane_by : FnScope N_is_plane_by P_is_plane_by (defScope (top 14)) := ⟨rfl, rfl, rfl, by decide +kernel, rfl, by decide +kernel, by decide +kernel⟩
def q_is_plane_by : QS := qRet (qAndV (qCall d_are_fractions (qCons (qVar 1) (qCons (q2 kAdd (qVar 0) (qC (.int 1))) (qNil)))) (qCB kAny (qCons (qLc (qIL (qSl (qVar 1) (qNoPart) (qPart (qVar 0)))) (qgN 2) (qYes) (q2 kNe (qVar 2) (qC (.tuple [(.int 0), (.int 1)]))) [2]) (qNil))))
theorem der_is_plane_by {P : Program} {w : World} {K : PySem.W.Frag} {mg : Str → Option Value} {base : Heap} (G : Gm K mg) (c_are_fractions : Cal P w K mg base 3 "are_fractions" (toSp K d_are_fractions) []) {f : Addr} {cdv : Value} {A : Around} {outer : List Env} {s : Shared} {H : Hp} {E : XK} (hr : Room 3 (A.deeper (envOfC "is_plane_by" (defScope (top 14)) s.heap.objs.size f cdv))) : ∃ t, DSs (cxOf CX0 P w K mg base N_is_plane_by "is_plane_by" (defScope (top 14)) f cdv A outer s H E).nox (defBody (top 14)) t q_is_plane_by := ⟨_, dss_one (ds_ret (dq_and (dq_c c_are_fractions hr (by decide) rfl (da_cons (dq_var 1 (pv 1)) (da_cons (dq_add (dq_var 0 (pv 0)) (dq_int)) (da_nil)))) (dq_one (dq_callB (cr_any rfl) oa_any rfl G.b_any (by decide +kernel) (da_cons (dq_lc (own := [("one", 2)]) (tt := tYes) (te := tOp (rNeA K) (tVar 2) (tC G.c_NOUGHT.choose_spec.choose)) (g := gName 2) rfl sc_is_plane_by.nd (di_list (dq_slice (dq_var 1 (pv 1)) (do_none) (do_some (dq_var 0 (pv 0))))) (blkOk_by (N := N_is_plane_by) (sc := defScope (top 14)) (own := [("one", 2)]) (by decide +kernel)) (fun _ _ _ _ _ => dg_name 2 (pg_name (i := 2) sc_is_plane_by.nd rfl (by first | exact .inl rfl | exact .inr rfl))) (fun _ _ _ _ _ => dts_nil) (fun _ _ _ _ _ => dq_cmp (op_neA hr.units) o2_ne (dq_var 2 (pv 2)) (dq_gD G.c_NOUGHT rfl) (nomark _))) (da_nil))))))⟩
abbrev N_are_same : List Str := ["one", "other", "early", "late"]
abbrev P_are_same : List Str := ["one", "other"]
theorem sc_are_same : FnScope N_are_same P_are_same (defScope (top 15)) := ⟨rfl, rfl, rfl, by decide +kernel, rfl, by decide +kernel, by decide +kernel⟩
def q_are_same : QS := qSeq (qFor (qR1 (qCons (qCB kLen (qCons (qVar 0) (qNil))) (qNil))) (qgN 2) (qFor (qR2 (qCons (q2 kAdd (qVar 2) (qC (.int 1))) (qCons (qCB kLen (qCons (qVar 0) (qNil))) (qNil)))) (qgN 3) (qIfS (qTest (q2 kNe (qCall d_times (qCons (q2 ixq (qVar 0) (qVar 2)) (qCons (q2 ixq (qVar 1) (qVar 3)) (qNil)))) (qCall d_times (qCons (q2 ixq (qVar 0) (qVar 3)) (qCons (q2 ixq (qVar 1) (qVar 2)) (qNil)))))) (qRet (qC (.bool false))) (qNext)))) (qRet (qC (.bool true)))
theorem der_are_same {P : Program} {w : World} {K : PySem.W.Frag} {mg : Str → Option Value} {base : Heap} (G : Gm K mg) (c_times : Cal P w K mg base 3 "times" (toSp K d_times) []) {f : Addr} {cdv : Value} {A : Around} {outer : List Env} {s : Shared} {H : Hp} {E : XK} (hr : Room 3 (A.deeper (envOfC "are_same" (defScope (top 15)) s.heap.objs.size f cdv))) : ∃ t, DSs (cxOf CX0 P w K mg base N_are_same "are_same" (defScope (top 15)) f cdv A outer s H E).nox (defBody (top 15)) t q_are_same := ⟨_, dss_cons (ds_for PassesOwn.never rfl (di_range1 rfl G.b_range (da_cons (dq_callB cr_len oa_len rfl G.b_len (by decide +kernel) (da_cons (dq_var 0 (pv 0)) (da_nil))) (da_nil))) (dg_name 2 (pg_name (i := 2) sc_are_same.nd rfl (by first | exact .inl rfl | exact .inr rfl))) (dss_one (ds_for PassesOwn.never rfl (di_range2 rfl G.b_range (da_cons (dq_add (dq_var 2 (pv 2)) (dq_int)) (da_cons (dq_callB cr_len oa_len rfl G.b_len (by decide +kernel) (da_cons (dq_var 0 (pv 0)) (da_nil))) (da_nil)))) (dg_name 3 (pg_name (i := 3) sc_are_same.nd rfl (by first | exact .inl rfl | exact .inr rfl))) (dss_one (ds_if (dt_cmp (op_neA hr.units) o2_ne (dq_c c_times hr (by decide) rfl (da_cons (dq_ix (dq_var 0 (pv 0)) (dq_var 2 (pv 2))) (da_cons (dq_ix (dq_var 1 (pv 1)) (dq_var 3 (pv 3))) (da_nil)))) (dq_c c_times hr (by decide) rfl (da_cons (dq_ix (dq_var 0 (pv 0)) (dq_var 3 (pv 3))) (da_cons (dq_ix (dq_var 1 (pv 1)) (dq_var 2 (pv 2))) (da_nil)))) (nomark _)) (dss_one (ds_ret (dq_bl))) (dss_nil)))))) (dss_one (ds_ret (dq_bl)))⟩
abbrev N_fraction_words : List Str := ["number"]
abbrev P_fraction_words : List Str := ["number"]
theorem sc_fraction_words : FnScope N_fraction_words P_fraction_words (defScope (top 19)) := ⟨rfl, rfl, rfl, by decide +kernel, rfl, by decide +kernel, by decide +kernel⟩
def q_fraction_words : QS := qRet (qIf (qTest (q2 kEq (q2 ixq (qVar 0) (qC (.int 1))) (qC (.int 1)))) (qCB kStr (qCons (q2 ixq (qVar 0) (qC (.int 0))) (qNil))) (q2 kAdd (q2 kAdd (qCB kStr (qCons (q2 ixq (qVar 0) (qC (.int 0))) (qNil))) (qC (.str "/"))) (qCB kStr (qCons (q2 ixq (qVar 0) (qC (.int 1))) (qNil)))))
theorem der_fraction_words {P : Program} {w : World} {K : PySem.W.Frag} {mg : Str → Option Value} {base : Heap} (G : Gm K mg) {f : Addr} {cdv : Value} {A : Around} {outer : List Env} {s : Shared} {H : Hp} {E : XK} (hr : Room 0 (A.deeper (envOfC "fraction_words" (defScope (top 19)) s.heap.objs.size f cdv))) : ∃ t, DSs (cxOf CX0 P w K mg base N_fraction_words "fraction_words" (defScope (top 19)) f cdv A outer s H E).nox (defBody (top 19)) t q_fraction_words := ⟨_, dss_one (ds_ret (dq_if (dt_cmp (op_eqA hr.units) o2_eq (dq_ix (dq_var 0 (pv 0)) (dq_int)) (dq_int) (nomark _)) (dq_callTy cr_str oa_str rfl G.b_str (by decide +kernel) (da_cons (dq_ix (dq_var 0 (pv 0)) (dq_int)) (da_nil))) (dq_add (dq_add (dq_callTy cr_str oa_str rfl G.b_str (by decide +kernel) (da_cons (dq_ix (dq_var 0 (pv 0)) (dq_int)) (da_nil))) (dq_str)) (dq_callTy cr_str oa_str rfl G.b_str (by decide +kernel) (da_cons (dq_ix (dq_var 0 (pv 0)) (dq_int)) (da_nil))))))⟩
abbrev N_is_digits : List Str := ["word", "sign"]
abbrev P_is_digits : List Str := ["word"]
theorem sc_is_digits : FnScope N_is_digits P_is_digits (defScope (top 20)) := ⟨rfl, rfl, rfl, by decide +kernel, rfl, by decide +kernel, by decide +kernel⟩
def q_is_digits : QS := qSeq (qIfS (qOr (qNot (qTest (qChain kLe kLe (qC (.int 1)) (qCB kLen (qCons (qVar 0) (qNil))) (qC (.int 9))))) (qNot (qTest (qCB kAll (qCons (qLc (qIS (qVar 0)) (qgN 1) (qYes) (q2 kIn (qVar 1) (qC (.str "0123456789"))) [1]) (qNil)))))) (qRet (qC (.bool false))) (qNext)) (qRet (qOrV (q2 kNe (q2 ixq (qVar 0) (qC (.int 0))) (qC (.str "0"))) (q2 kEq (qCB kLen (qCons (qVar 0) (qNil))) (qC (.int 1)))))
theorem der_is_digits {P : Program} {w : World} {K : PySem.W.Frag} {mg : Str → Option Value} {base : Heap} (G : Gm K mg) {f : Addr} {cdv : Value} {A : Around} {outer : List Env} {s : Shared} {H : Hp} {E : XK} (hr : Room 0 (A.deeper (envOfC "is_digits" (defScope (top 20)) s.heap.objs.size f cdv))) : ∃ t, DSs (cxOf CX0 P w K mg base N_is_digits "is_digits" (defScope (top 20)) f cdv A outer s H E).nox (defBody (top 20)) t q_is_digits := ⟨_, dss_cons (ds_if (DW.dt (dw_or (dt_not (dt_chain op_le o2_le op_le o2_le (dq_int) (dq_callB cr_len oa_len rfl G.b_len (by decide +kernel) (da_cons (dq_var 0 (pv 0)) (da_nil))) (dq_gD G.c_FIGURES rfl))) (dw_or1 (dt_not (dt_val (dq_callB (cr_all rfl) oa_all rfl G.b_all (by decide +kernel) (da_cons (dq_lc (own := [("sign", 1)]) (tt := tYes) (te := tOp (rInA K) (tVar 1) (tC (.str "0123456789"))) (g := gName 1) rfl sc_is_digits.nd (di_str (dq_var 0 (pv 0))) (blkOk_by (N := N_is_digits) (sc := defScope (top 20)) (own := [("sign", 1)]) (by decide +kernel)) (fun _ _ _ _ _ => dg_name 1 (pg_name (i := 1) sc_is_digits.nd rfl (by first | exact .inl rfl | exact .inr rfl))) (fun _ _ _ _ _ => dts_nil) (fun _ _ _ _ _ => dq_cmp (op_inA (units65 hr)) o2_in (dq_var 1 (pv 1)) (dq_str) rfl)) (da_nil)))))))) (dss_one (ds_ret (dq_bl))) (dss_nil)) (dss_one (ds_ret (dq_or (dq_cmp (op_neA hr.units) o2_ne (dq_ix (dq_var 0 (pv 0)) (dq_int)) (dq_str) (nomark _)) (dq_one (dq_cmp (op_eqA hr.units) o2_eq (dq_callB cr_len oa_len rfl G.b_len (by decide +kernel) (da_cons (dq_var 0 (pv 0)) (da_nil))) (dq_int) (nomark _))))))⟩
abbrev N_fraction_told : List Str := ["word", "parts", "under", "found", "part"]
abbrev P_fraction_told : List Str := ["word"]
theorem sc_fraction_told : FnScope N_fraction_told P_fraction_told (defScope (top 21)) := ⟨rfl, rfl, rfl, by decide +kernel, rfl, by decide +kernel, by decide +kernel⟩
def q_fraction_told : QS := qSeq (qAsg (qSplit (qIf (qTest (q2 kEq (qSl (qVar 0) (qNoPart) (qPart (qC (.int 1)))) (qC (.str "-")))) (qSl (qVar 0) (qPart (qC (.int 1))) (qNoPart)) (qVar 0)) (qC (.str "/"))) 1) (qSeq (qIfS (qOr (qTest (q2 kGt (qCB kLen (qCons (qVar 1) (qNil))) (qC (.int 2)))) (qOr (qNot (qTest (qCB kAll (qCons (qLc (qIL (qVar 1)) (qgN 4) (qYes) (qCall d_is_digits (qCons (qVar 4) (qNil))) [4]) (qNil))))) (qAnd (qTest (q2 kEq (q2 ixq (qVar 1) (q1 kNeg (qC (.int 1)))) (qC (.str "0")))) (qTest (q2 kEq (qCB kLen (qCons (qVar 1) (qNil))) (qC (.int 2))))))) (qRet (qC .none)) (qNext)) (qSeq (qAsg (qIf (qTest (q2 kEq (qCB kLen (qCons (qVar 1) (qNil))) (qC (.int 2)))) (qCB kInt (qCons (q2 ixq (qVar 1) (qC (.int 1))) (qNil))) (qC (.int 1))) 2) (qSeq (qAsg (qCall d_lowest (qCons (qIf (qTest (q2 kEq (qSl (qVar 0) (qNoPart) (qPart (qC (.int 1)))) (qC (.str "-")))) (q1 kNeg (qCB kInt (qCons (q2 ixq (qVar 1) (qC (.int 0))) (qNil)))) (qCB kInt (qCons (q2 ixq (qVar 1) (qC (.int 0))) (qNil)))) (qCons (qVar 2) (qNil)))) 3) (qRet (qIf (qTest (q2 kEq (qCall d_fraction_words (qCons (qVar 3) (qNil))) (qVar 0))) (qVar 3) (qC .none))))))
theorem der_fraction_told {P : Program} {w : World} {K : PySem.W.Frag} {mg : Str → Option Value} {base : Heap} (G : Gm K mg) (c_is_digits : Cal P w K mg base 1 "is_digits" (toSp K d_is_digits) []) (c_lowest : Cal P w K mg base 2 "lowest" (toSp K d_lowest) []) (c_fraction_words : Cal P w K mg base 1 "fraction_words" (toSp K d_fraction_words) []) {f : Addr} {cdv : Value} {A : Around} {outer : List Env} {s : Shared} {H : Hp} {E : XK} (hr : Room 2 (A.deeper (envOfC "fraction_told" (defScope (top 21)) s.heap.objs.size f cdv))) : ∃ t, DSs (cxOf CX0 P w K mg base N_fraction_told "fraction_told" (defScope (top 21)) f cdv A outer s H E).nox (defBody (top 21)) t q_fraction_told := ⟨_, dss_cons (ds_set 1 sc_fraction_told.nd (dq_split (dq_if (dt_cmp (op_eqA hr.units) o2_eq (dq_slice (dq_var 0 (pv 0)) (do_none) (do_some (dq_int))) (dq_str) (nomark _)) (dq_slice (dq_var 0 (pv 0)) (do_some (dq_int)) (do_none)) (dq_var 0 (pv 0))) (dq_str))) (dss_cons (ds_if (DW.dt (dw_or (dt_cmp op_gt o2_gt (dq_callB cr_len oa_len rfl G.b_len (by decide +kernel) (da_cons (dq_var 1 (pv 1)) (da_nil))) (dq_int) (nomark _)) (dw_or (dt_not (dt_val (dq_callB (cr_all rfl) oa_all rfl G.b_all (by decide +kernel) (da_cons (dq_lc (own := [("part", 4)]) (tt := tYes) (te := tCall (toSp K d_is_digits) [] E0 (tCons (tVar 4) (tNil))) (g := gName 4) rfl sc_fraction_told.nd (di_list (dq_var 1 (pv 1))) (blkOk_by (N := N_fraction_told) (sc := defScope (top 21)) (own := [("part", 4)]) (by decide +kernel)) (fun _ _ _ _ _ => dg_name 4 (pg_name (i := 4) sc_fraction_told.nd rfl (by first | exact .inl rfl | exact .inr rfl))) (fun _ _ _ _ _ => dts_nil) (fun _ _ _ _ _ => dq_c c_is_digits hr (by decide) rfl (da_cons (dq_var 4 (pv 4)) (da_nil)))) (da_nil))))) (dw_or1 (DW.dt (dw_and (dt_cmp (op_eqA hr.units) o2_eq (dq_ix (dq_var 1 (pv 1)) (dq_neg (dq_int))) (dq_str) (nomark _)) (dw_and1 (dt_cmp (op_eqA hr.units) o2_eq (dq_callB cr_len oa_len rfl G.b_len (by decide +kernel) (da_cons (dq_var 1 (pv 1)) (da_nil))) (dq_int) (nomark _))))))))) (dss_one (ds_ret (dq_non))) (dss_nil)) (dss_cons (ds_set 2 sc_fraction_told.nd (dq_if (dt_cmp (op_eqA hr.units) o2_eq (dq_callB cr_len oa_len rfl G.b_len (by decide +kernel) (da_cons (dq_var 1 (pv 1)) (da_nil))) (dq_int) (nomark _)) (dq_callTy cr_int oa_int rfl G.b_int (by decide +kernel) (da_cons (dq_ix (dq_var 1 (pv 1)) (dq_int)) (da_nil))) (dq_int))) (dss_cons (ds_set 3 sc_fraction_told.nd (dq_c c_lowest hr (by decide) rfl (da_cons (dq_if (dt_cmp (op_eqA hr.units) o2_eq (dq_slice (dq_var 0 (pv 0)) (do_none) (do_some (dq_int))) (dq_str) (nomark _)) (dq_neg (dq_callTy cr_int oa_int rfl G.b_int (by decide +kernel) (da_cons (dq_ix (dq_var 1 (pv 1)) (dq_int)) (da_nil)))) (dq_callTy cr_int oa_int rfl G.b_int (by decide +kernel) (da_cons (dq_ix (dq_var 1 (pv 1)) (dq_int)) (da_nil)))) (da_cons (dq_var 2 (pv 2)) (da_nil))))) (dss_one (ds_ret (dq_if (dt_cmp (op_eqA hr.units) o2_eq (dq_c c_fraction_words hr (by decide) rfl (da_cons (dq_var 3 (pv 3)) (da_nil))) (dq_var 0 (pv 0)) (nomark _)) (dq_var 3 (pv 3)) (dq_non)))))))⟩
abbrev N_row_told : List Str := ["line", "found", "word"]
abbrev P_row_told : List Str := ["line"]
theorem sc_row_told : FnScope N_row_told P_row_told (defScope (top 22)) := ⟨rfl, rfl, rfl, by decide +kernel, rfl, by decide +kernel, by decide +kernel⟩
def q_row_told : QS := qSeq (qAsg (qLc (qIL (qSplit (qVar 0) (qC (.str " ")))) (qgN 2) (qYes) (qCall d_fraction_told (qCons (qVar 2) (qNil))) [2]) 1) (qRet (qIf (qTest (q2 kIn (qC .none) (qVar 1))) (qC .none) (qVar 1)))
theorem der_row_told {P : Program} {w : World} {K : PySem.W.Frag} {mg : Str → Option Value} {base : Heap} (G : Gm K mg) (c_fraction_told : Cal P w K mg base 3 "fraction_told" (toSp K d_fraction_told) []) {f : Addr} {cdv : Value} {A : Around} {outer : List Env} {s : Shared} {H : Hp} {E : XK} (hr : Room 3 (A.deeper (envOfC "row_told" (defScope (top 22)) s.heap.objs.size f cdv))) : ∃ t, DSs (cxOf CX0 P w K mg base N_row_told "row_told" (defScope (top 22)) f cdv A outer s H E).nox (defBody (top 22)) t q_row_told := ⟨_, dss_cons (ds_asgLc (i := 1) (own := [("word", 2)]) (tt := tYes) (te := tCall (toSp K d_fraction_told) [] E0 (tCons (tVar 2) (tNil))) (g := gName 2) rfl sc_row_told.nd rfl rfl (sw_true rfl rfl rfl (by decide +kernel)) (di_list (dq_split (dq_var 0 (pv 0)) (dq_str))) (blkOk_by (N := N_row_told) (sc := defScope (top 22)) (own := [("word", 2)]) (by decide +kernel)) (fun _ _ _ _ _ => dg_name 2 (pg_name (i := 2) sc_row_told.nd rfl (by first | exact .inl rfl | exact .inr rfl))) (fun _ _ _ _ _ => dts_nil) (fun _ _ _ _ _ => dq_c c_fraction_told hr (by decide) rfl (da_cons (dq_var 2 (pv 2)) (da_nil)))) (dss_one (ds_ret (dq_if (dt_cmp (op_inA (units65 hr)) o2_in (dq_non) (dq_var 1 (pv 1)) rfl) (dq_non) (dq_var 1 (pv 1)))))⟩
abbrev N_dimensions_told : List Str := ["line", "many"]
abbrev P_dimensions_told : List Str := ["line"]
theorem sc_dimensions_told : FnScope N_dimensions_told P_dimensions_told (defScope (top 23)) := ⟨rfl, rfl, rfl, by decide +kernel, rfl, by decide +kernel, by decide +kernel⟩
def q_dimensions_told : QS := qSeq (qFor (qR2 (qCons (qC (.int 1)) (qCons (q2 kAdd (qC (.int 3)) (qC (.int 1))) (qNil)))) (qgN 1) (qIfS (qTest (q2 kEq (qVar 0) (q2 kAdd (qC (.str "dimensions ")) (qCB kStr (qCons (qVar 1) (qNil)))))) (qRet (qVar 1)) (qNext))) (qRet (qC .none))
theorem der_dimensions_told {P : Program} {w : World} {K : PySem.W.Frag} {mg : Str → Option Value} {base : Heap} (G : Gm K mg) {f : Addr} {cdv : Value} {A : Around} {outer : List Env} {s : Shared} {H : Hp} {E : XK} (hr : Room 0 (A.deeper (envOfC "dimensions_told" (defScope (top 23)) s.heap.objs.size f cdv))) : ∃ t, DSs (cxOf CX0 P w K mg base N_dimensions_told "dimensions_told" (defScope (top 23)) f cdv A outer s H E).nox (defBody (top 23)) t q_dimensions_told := ⟨_, dss_cons (ds_for PassesOwn.never rfl (di_range2 rfl G.b_range (da_cons (dq_int) (da_cons (dq_add (dq_gD G.c_MOST_DIMENSIONS rfl) (dq_int)) (da_nil)))) (dg_name 1 (pg_name (i := 1) sc_dimensions_told.nd rfl (by first | exact .inl rfl | exact .inr rfl))) (dss_one (ds_if (dt_cmp (op_eqA hr.units) o2_eq (dq_var 0 (pv 0)) (dq_add (dq_str) (dq_callTy cr_str oa_str rfl G.b_str (by decide +kernel) (da_cons (dq_var 1 (pv 1)) (da_nil)))) (nomark _)) (dss_one (ds_ret (dq_var 1 (pv 1)))) (dss_nil)))) (dss_one (ds_ret (dq_non)))⟩
abbrev N_can_follow : List Str := ["many", "rows", "row", "other"]
abbrev P_can_follow : List Str := ["many", "rows", "row"]
theorem sc_can_follow : FnScope N_can_follow P_can_follow (defScope (top 24)) := ⟨rfl, rfl, rfl, by decide +kernel, rfl, by decide +kernel, by decide +kernel⟩
def q_can_follow : QS := qSeq (qIfS (qOr (qTest (q2 kIsN (qVar 2) (qC .none))) (qOr (qNot (qTest (qCall d_is_plane_by (qCons (qVar 0) (qCons (qVar 2) (qNil)))))) (qTest (q2 kEq (qCB kLen (qCons (qVar 1) (qNil))) (qC (.int 8)))))) (qRet (qC (.bool false))) (qNext)) (qRet (qNotV (qCB kAny (qCons (qLc (qIL (qVar 1)) (qgN 3) (qYes) (qCall d_are_same (qCons (qVar 3) (qCons (qVar 2) (qNil)))) [3]) (qNil)))))
theorem der_can_follow {P : Program} {w : World} {K : PySem.W.Frag} {mg : Str → Option Value} {base : Heap} (G : Gm K mg) (c_is_plane_by : Cal P w K mg base 4 "is_plane_by" (toSp K d_is_plane_by) []) (c_are_same : Cal P w K mg base 4 "are_same" (toSp K d_are_same) []) {f : Addr} {cdv : Value} {A : Around} {outer : List Env} {s : Shared} {H : Hp} {E : XK} (hr : Room 4 (A.deeper (envOfC "can_follow" (defScope (top 24)) s.heap.objs.size f cdv))) : ∃ t, DSs (cxOf CX0 P w K mg base N_can_follow "can_follow" (defScope (top 24)) f cdv A outer s H E).nox (defBody (top 24)) t q_can_follow := ⟨_, dss_cons (ds_if (DW.dt (dw_or (dt_cmp op_isNR o2_isN (dq_var 2 (pv 2)) (dq_non) (nomark _)) (dw_or (dt_not (dt_val (dq_c c_is_plane_by hr (by decide) rfl (da_cons (dq_var 0 (pv 0)) (da_cons (dq_var 2 (pv 2)) (da_nil)))))) (dw_or1 (dt_cmp (op_eqA hr.units) o2_eq (dq_callB cr_len oa_len rfl G.b_len (by decide +kernel) (da_cons (dq_var 1 (pv 1)) (da_nil))) (dq_gD G.c_MOST_PLANES rfl) (nomark _)))))) (dss_one (ds_ret (dq_bl))) (dss_nil)) (dss_one (ds_ret (dq_not (dq_callB (cr_any rfl) oa_any rfl G.b_any (by decide +kernel) (da_cons (dq_lc (own := [("other", 3)]) (tt := tYes) (te := tCall (toSp K d_are_same) [] E0 (tCons (tVar 3) (tCons (tVar 2) (tNil)))) (g := gName 3) rfl sc_can_follow.nd (di_list (dq_var 1 (pv 1))) (blkOk_by (N := N_can_follow) (sc := defScope (top 24)) (own := [("other", 3)]) (by decide +kernel)) (fun _ _ _ _ _ => dg_name 3 (pg_name (i := 3) sc_can_follow.nd rfl (by first | exact .inl rfl | exact .inr rfl))) (fun _ _ _ _ _ => dts_nil) (fun _ _ _ _ _ => dq_c c_are_same hr (by decide) rfl (da_cons (dq_var 3 (pv 3)) (da_cons (dq_var 2 (pv 2)) (da_nil))))) (da_nil))))))⟩
abbrev N_wrong_in : List Str := ["lines", "many", "rows", "number", "line", "row"]
abbrev P_wrong_in : List Str := ["lines"]
theorem sc_wrong_in : FnScope N_wrong_in P_wrong_in (defScope (top 25)) := ⟨rfl, rfl, rfl, by decide +kernel, rfl, by decide +kernel, by decide +kernel⟩
def q_wrong_in : QS := qSeq (qParO (qC .none) (qLst (qNil)) 1 2) (qSeq (qFor (qIE (qCons (qVar 0) (qNil))) (qgT 2 (qgCons (qgN 3) (qgCons (qgN 4) (qgNil)))) (qIfS (qTest (q2 kEq (qVar 3) (qC (.int 0)))) (qSeq (qAsg (qCall d_dimensions_told (qCons (qVar 4) (qNil))) 1) (qIfS (qTest (q2 kIsN (qVar 1) (qC .none))) (qRet (qC (.int 0))) (qNext))) (qSeq (qAsg (qCall d_row_told (qCons (qVar 4) (qNil))) 5) (qSeq (qIfS (qLendT (qNot (qTest (qCall d_can_follow (qCons (qVar 1) (qCons (qVar 2) (qCons (qVar 5) (qNil)))))))) (qRet (qVar 3)) (qNext)) (qApN 2 (qVar 5)))))) (qRet (qC .none)))
theorem der_wrong_in {P : Program} {w : World} {K : PySem.W.Frag} {mg : Str → Option Value} {base : Heap} (G : Gm K mg) (c_dimensions_told : Cal P w K mg base 1 "dimensions_told" (toSp K d_dimensions_told) []) (c_row_told : Cal P w K mg base 4 "row_told" (toSp K d_row_told) []) (c_can_follow : Cal P w K mg base 5 "can_follow" (toSp K d_can_follow) []) {f : Addr} {cdv : Value} {A : Around} {outer : List Env} {s : Shared} {H : Hp} {E : XK} (hr : Room 5 (A.deeper (envOfC "wrong_in" (defScope (top 25)) s.heap.objs.size f cdv))) : ∃ t, DSs (cxOf CX0 P w K mg base N_wrong_in "wrong_in" (defScope (top 25)) f cdv A outer s H E).nox (defBody (top 25)) t q_wrong_in := ⟨_, dss_cons (ds_set2O 1 2 rfl sc_wrong_in.nd (dq_non) (dq_lst (da_nil))) (dss_cons (ds_for PassesOwn.never rfl (di_enum rfl G.b_enumerate (da_cons (dq_var 0 (pv 0)) (da_nil))) (dg_tup rfl (dgs_cons (dg_name 3 (pg_name (i := 3) sc_wrong_in.nd rfl (by first | exact .inl rfl | exact .inr rfl))) (dgs_cons (dg_name 4 (pg_name (i := 4) sc_wrong_in.nd rfl (by first | exact .inl rfl | exact .inr rfl))) (dgs_nil)))) (dss_one (ds_if (dt_cmp (op_eqA hr.units) o2_eq (dq_var 3 (pv 3)) (dq_int) (nomark _)) (dss_cons (ds_set 1 sc_wrong_in.nd (dq_c c_dimensions_told hr (by decide) rfl (da_cons (dq_var 4 (pv 4)) (da_nil)))) (dss_one (ds_if (dt_cmp op_isNR o2_isN (dq_var 1 (pv 1)) (dq_non) (nomark _)) (dss_one (ds_ret (dq_int))) (dss_nil)))) (dss_cons (ds_set 5 sc_wrong_in.nd (dq_c c_row_told hr (by decide) rfl (da_cons (dq_var 4 (pv 4)) (da_nil)))) (dss_cons (ds_if (dt_lend (dt_not (dt_val (dq_c c_can_follow hr (by decide) rfl (da_cons (dq_var 1 (pv 1)) (da_cons (dq_var 2 (pv 2)) (da_cons (dq_var 5 (pv 5)) (da_nil)))))))) (dss_one (ds_ret (dq_var 3 (pv 3)))) (dss_nil)) (dss_one (ds_apN 2 (pv 2) (dq_var 5 (pv 5))))))))) (dss_one (ds_ret (dq_non))))⟩
abbrev N_wrong_by : List Str := ["text", "lines", "found"]
abbrev P_wrong_by : List Str := ["text"]
theorem sc_wrong_by : FnScope N_wrong_by P_wrong_by (defScope (top 26)) := ⟨rfl, rfl, rfl, by decide +kernel, rfl, by decide +kernel, by decide +kernel⟩
def q_wrong_by : QS := qSeq (qAsg (qSplit (qVar 0) (qC (.str "\n"))) 1) (qSeq (qAsg (qCall d_wrong_in (qCons (qSl (qVar 1) (qNoPart) (qPart (q1 kNeg (qC (.int 1))))) (qNil))) 2) (qSeq (qIfS (qTest (q2 kNotN (qVar 2) (qC .none))) (qRet (qVar 2)) (qNext)) (qSeq (qIfS (qOr (qTest (q2 kNe (q2 ixq (qVar 1) (q1 kNeg (qC (.int 1)))) (qC (.str "")))) (qTest (q2 kLt (qCB kLen (qCons (qVar 1) (qNil))) (qC (.int 3))))) (qRet (q2 kSub (qCB kLen (qCons (qVar 1) (qNil))) (qC (.int 1)))) (qNext)) (qRet (qC .none)))))
theorem der_wrong_by {P : Program} {w : World} {K : PySem.W.Frag} {mg : Str → Option Value} {base : Heap} (G : Gm K mg) (c_wrong_in : Cal P w K mg base 6 "wrong_in" (toSp K d_wrong_in) []) {f : Addr} {cdv : Value} {A : Around} {outer : List Env} {s : Shared} {H : Hp} {E : XK} (hr : Room 6 (A.deeper (envOfC "wrong_by" (defScope (top 26)) s.heap.objs.size f cdv))) : ∃ t, DSs (cxOf CX0 P w K mg base N_wrong_by "wrong_by" (defScope (top 26)) f cdv A outer s H E).nox (defBody (top 26)) t q_wrong_by := ⟨_, dss_cons (ds_set 1 sc_wrong_by.nd (dq_split (dq_var 0 (pv 0)) (dq_gD G.c_END rfl))) (dss_cons (ds_set 2 sc_wrong_by.nd (dq_c c_wrong_in hr (by decide) rfl (da_cons (dq_slice (dq_var 1 (pv 1)) (do_none) (do_some (dq_neg (dq_int)))) (da_nil)))) (dss_cons (ds_if (dt_cmp op_notNR o2_notN (dq_var 2 (pv 2)) (dq_non) (nomark _)) (dss_one (ds_ret (dq_var 2 (pv 2)))) (dss_nil)) (dss_cons (ds_if (DW.dt (dw_or (dt_cmp (op_neA hr.units) o2_ne (dq_ix (dq_var 1 (pv 1)) (dq_neg (dq_int))) (dq_str) (nomark _)) (dw_or1 (dt_cmp op_lt o2_lt (dq_callB cr_len oa_len rfl G.b_len (by decide +kernel) (da_cons (dq_var 1 (pv 1)) (da_nil))) (dq_int) (nomark _))))) (dss_one (ds_ret (dq_sub (dq_callB cr_len oa_len rfl G.b_len (by decide +kernel) (da_cons (dq_var 1 (pv 1)) (da_nil))) (dq_int)))) (dss_nil)) (dss_one (ds_ret (dq_non))))))⟩
abbrev N__law_hash : List Str := ["seed", "index", "mixed"]
abbrev P__law_hash : List Str := ["seed", "index"]
theorem sc__law_hash : FnScope N__law_hash P__law_hash (defScope (top 30)) := ⟨rfl, rfl, rfl, by decide +kernel, rfl, by decide +kernel, by decide +kernel⟩
def q__law_hash : QS := qSeq (qAsg (q2 kMod (qCB kInt (qCons (q2 kAdd (q2 kAdd (q2 kAdd (q2 kMul (qVar 0) (qC (.int 1140671))) (q2 kMul (q2 kMul (qC (.int 27644437)) (qVar 1)) (qVar 1))) (q2 kMul (qC (.int 131)) (qVar 1))) (qC (.int 19))) (qNil))) (qC (.int 2147483629))) 2) (qSeq (qAsg (q2 kMod (qCB kInt (qCons (q2 kAdd (q2 kAdd (q2 kMul (qVar 2) (qVar 2)) (q2 kMul (qC (.int 62089)) (qVar 1))) (qC (.int 32416187))) (qNil))) (qC (.int 2147483587))) 2) (qRet (q2 kMod (qCB kInt (qCons (q2 kMul (qVar 2) (qC (.int 48271))) (qNil))) (qC (.int 2147483647)))))
theorem der__law_hash {P : Program} {w : World} {K : PySem.W.Frag} {mg : Str → Option Value} {base : Heap} (G : Gm K mg) {f : Addr} {cdv : Value} {A : Around} {outer : List Env} {s : Shared} {H : Hp} {E : XK} (hr : Room 0 (A.deeper (envOfC "_law_hash" (defScope (top 30)) s.heap.objs.size f cdv))) : ∃ t, DSs (cxOf CX0 P w K mg base N__law_hash "_law_hash" (defScope (top 30)) f cdv A outer s H E).nox (defBody (top 30)) t q__law_hash := ⟨_, dss_cons (ds_set 2 sc__law_hash.nd (dq_mod (dq_callTy cr_int oa_int rfl G.b_int (by decide +kernel) (da_cons (dq_add (dq_add (dq_add (dq_mulA (dq_var 0 (pv 0)) (dq_int)) (dq_mulA (dq_mulA (dq_int) (dq_var 1 (pv 1))) (dq_var 1 (pv 1)))) (dq_mulA (dq_int) (dq_var 1 (pv 1)))) (dq_int)) (da_nil))) (dq_int))) (dss_cons (ds_set 2 sc__law_hash.nd (dq_mod (dq_callTy cr_int oa_int rfl G.b_int (by decide +kernel) (da_cons (dq_add (dq_add (dq_mulA (dq_var 2 (pv 2)) (dq_var 2 (pv 2))) (dq_mulA (dq_int) (dq_var 1 (pv 1)))) (dq_int)) (da_nil))) (dq_int))) (dss_one (ds_ret (dq_mod (dq_callTy cr_int oa_int rfl G.b_int (by decide +kernel) (da_cons (dq_mulA (dq_var 2 (pv 2)) (dq_int)) (da_nil))) (dq_int)))))⟩
abbrev N__law_random : List Str := ["generator", "bound", "drawn", "turn"]
abbrev P__law_random : List Str := ["generator", "bound"]
theorem sc__law_random : FnScope N__law_random P__law_random (defScope (top 31)) := ⟨rfl, rfl, rfl, by decide +kernel, rfl, by decide +kernel, by decide +kernel⟩
def q__law_random : QS := qSeq (qIfS (qTest (q2 kGt (qIxO 0 (qC (.int 0))) (qC (.int 0)))) (qSeq (qAsg (q2 kMod (qCB kInt (qCons (qIxO 0 (qC (.int 0))) (qNil))) (qVar 1)) 2) (qSeq (qStN 0 (qC (.int 0)) (q2 kFdiv (qIxO 0 (qC (.int 0))) (qVar 1))) (qRet (qVar 2)))) (qNext)) (qSeq (qAsg (qC (.int 0)) 2) (qSeq (qFor (qR1 (qCons (q2 kAdd (qC (.int 1)) (q2 kFdiv (qBits (qVar 1)) (qC (.int 30)))) (qNil))) (qgN 3) (qSeq (qStN 0 (qC (.int 2)) (q2 kAdd (qIxO 0 (qC (.int 2))) (qC (.int 1)))) (qAsg (q2 kAdd (q2 kMul (qVar 2) (qC (.int 2147483587))) (qCall d__law_hash (qCons (qIxO 0 (qC (.int 1))) (qCons (qIxO 0 (qC (.int 2))) (qNil))))) 2))) (qRet (q2 kMod (qCB kInt (qCons (qVar 2) (qNil))) (qVar 1)))))
theorem der__law_random {P : Program} {w : World} {K : PySem.W.Frag} {mg : Str → Option Value} {base : Heap} (G : Gm K mg) (c__law_hash : Cal P w K mg base 1 "_law_hash" (toSp K d__law_hash) []) {f : Addr} {cdv : Value} {A : Around} {outer : List Env} {s : Shared} {H : Hp} {E : XK} (hr : Room 1 (A.deeper (envOfC "_law_random" (defScope (top 31)) s.heap.objs.size f cdv))) : ∃ t, DSs (cxOf CX0 P w K mg base N__law_random "_law_random" (defScope (top 31)) f cdv A outer s H E).nox (defBody (top 31)) t q__law_random := ⟨_, dss_cons (ds_if (dt_cmp op_gt o2_gt (dq_ixO 0 (pv 0) (dq_int)) (dq_int) (nomark _)) (dss_cons (ds_set 2 sc__law_random.nd (dq_mod (dq_callTy cr_int oa_int rfl G.b_int (by decide +kernel) (da_cons (dq_ixO 0 (pv 0) (dq_int)) (da_nil))) (dq_var 1 (pv 1)))) (dss_cons (ds_stN 0 (pv 0) (dq_fdiv (dq_ixO 0 (pv 0) (dq_int)) (dq_var 1 (pv 1))) (dq_int)) (dss_one (ds_ret (dq_var 2 (pv 2)))))) (dss_nil)) (dss_cons (ds_set 2 sc__law_random.nd (dq_int)) (dss_cons (ds_for PassesOwn.never rfl (di_range1 rfl G.b_range (da_cons (dq_add (dq_int) (dq_fdiv (dq_bits (dq_var 1 (pv 1))) (dq_int))) (da_nil))) (dg_name 3 (pg_name (i := 3) sc__law_random.nd rfl (by first | exact .inl rfl | exact .inr rfl))) (dss_cons (ds_stN 0 (pv 0) (dq_add (dq_ixO 0 (pv 0) (dq_int)) (dq_int)) (dq_int)) (dss_one (ds_set 2 sc__law_random.nd (dq_add (dq_mulA (dq_var 2 (pv 2)) (dq_int)) (dq_c c__law_hash hr (by decide) rfl (da_cons (dq_ixO 0 (pv 0) (dq_int)) (da_cons (dq_ixO 0 (pv 0) (dq_int)) (da_nil))))))))) (dss_one (ds_ret (dq_mod (dq_callTy cr_int oa_int rfl G.b_int (by decide +kernel) (da_cons (dq_var 2 (pv 2)) (da_nil))) (dq_var 1 (pv 1)))))))⟩
abbrev N__law_cell : List Str := ["script", "index"]
abbrev P__law_cell : List Str := ["script", "index"]
theorem sc__law_cell : FnScope N__law_cell P__law_cell (defScope (top 32)) := ⟨rfl, rfl, rfl, by decide +kernel, rfl, by decide +kernel, by decide +kernel⟩
def q__law_cell : QS := qSeq (qIfS (qTest (q2 kLt (qVar 1) (qCB kLen (qCons (qVar 0) (qNil))))) (qRet (q2 ixq (qVar 0) (qVar 1))) (qNext)) (qRet (q2 kMod (qCB kSum (qCons (qSl (qVar 0) (qNoPart) (qPart (qC (.int 1)))) (qNil))) (qC (.int 1000003))))
theorem der__law_cell {P : Program} {w : World} {K : PySem.W.Frag} {mg : Str → Option Value} {base : Heap} (G : Gm K mg) {f : Addr} {cdv : Value} {A : Around} {outer : List Env} {s : Shared} {H : Hp} {E : XK} (hr : Room 0 (A.deeper (envOfC "_law_cell" (defScope (top 32)) s.heap.objs.size f cdv))) : ∃ t, DSs (cxOf CX0 P w K mg base N__law_cell "_law_cell" (defScope (top 32)) f cdv A outer s H E).nox (defBody (top 32)) t q__law_cell := ⟨_, dss_cons (ds_if (dt_cmp op_lt o2_lt (dq_var 1 (pv 1)) (dq_callB cr_len oa_len rfl G.b_len (by decide +kernel) (da_cons (dq_var 0 (pv 0)) (da_nil))) (nomark _)) (dss_one (ds_ret (dq_ix (dq_var 0 (pv 0)) (dq_var 1 (pv 1))))) (dss_nil)) (dss_one (ds_ret (dq_mod (dq_callB (cr_sum rfl) oa_sum rfl G.b_sum (by decide +kernel) (da_cons (dq_slice (dq_var 0 (pv 0)) (do_none) (do_some (dq_int))) (da_nil))) (dq_int))))⟩
abbrev N__law_generator : List Str := ["script", "index", "seed"]
abbrev P__law_generator : List Str := ["script", "index"]
theorem sc__law_generator : FnScope N__law_generator P__law_generator (defScope (top 33)) := ⟨rfl, rfl, rfl, by decide +kernel, rfl, by decide +kernel, by decide +kernel⟩
def q__law_generator : QS := qSeq (qAsg (qCall d__law_cell (qCons (qVar 0) (qCons (qVar 1) (qNil)))) 2) (qRet (qLst (qCons (q2 kMod (qCB kInt (qCons (qCB kMax2 (qCons (q2 kSub (qVar 2) (q2 kPow (qC (.int 10)) (qC (.int 18)))) (qCons (qC (.int 0)) (qNil)))) (qNil))) (q2 kPow (q2 kPow (qC (.int 10)) (qC (.int 60))) (qC (.int 10)))) (qCons (q2 kMod (qCB kInt (qCons (qVar 2) (qNil))) (qC (.int 2147483647))) (qCons (q2 kMul (qC (.int 1000)) (qVar 1)) (qNil))))))
theorem der__law_generator {P : Program} {w : World} {K : PySem.W.Frag} {mg : Str → Option Value} {base : Heap} (G : Gm K mg) (c__law_cell : Cal P w K mg base 1 "_law_cell" (toSp K d__law_cell) []) {f : Addr} {cdv : Value} {A : Around} {outer : List Env} {s : Shared} {H : Hp} {E : XK} (hr : Room 1 (A.deeper (envOfC "_law_generator" (defScope (top 33)) s.heap.objs.size f cdv))) : ∃ t, DSs (cxOf CX0 P w K mg base N__law_generator "_law_generator" (defScope (top 33)) f cdv A outer s H E).nox (defBody (top 33)) t q__law_generator := ⟨_, dss_cons (ds_set 2 sc__law_generator.nd (dq_c c__law_cell hr (by decide) rfl (da_cons (dq_var 0 (pv 0)) (da_cons (dq_var 1 (pv 1)) (da_nil))))) (dss_one (ds_ret (dq_lst (da_cons (dq_mod (dq_callTy cr_int oa_int rfl G.b_int (by decide +kernel) (da_cons (dq_callB (cr_max2 rfl) oa_max2 rfl G.b_max (by decide +kernel) (da_cons (dq_sub (dq_var 2 (pv 2)) (dq_pow (dq_int) (dq_int))) (da_cons (dq_int) (da_nil)))) (da_nil))) (dq_pow (dq_pow (dq_int) (dq_int)) (dq_int))) (da_cons (dq_mod (dq_callTy cr_int oa_int rfl G.b_int (by decide +kernel) (da_cons (dq_var 2 (pv 2)) (da_nil))) (dq_int)) (da_cons (dq_mulA (dq_int) (dq_var 1 (pv 1))) (da_nil)))))))⟩
abbrev N__law_pick : List Str := ["generator", "row"]
abbrev P__law_pick : List Str := ["generator", "row"]
theorem sc__law_pick : FnScope N__law_pick P__law_pick (defScope (top 34)) := ⟨rfl, rfl, rfl, by decide +kernel, rfl, by decide +kernel, by decide +kernel⟩
def q__law_pick : QS := qRet (q2 ixq (qVar 1) (qCallO 0 d__law_random (qCons (qCB kLen (qCons (qVar 1) (qNil))) (qNil))))
theorem der__law_pick {P : Program} {w : World} {K : PySem.W.Frag} {mg : Str → Option Value} {base : Heap} (G : Gm K mg) (c__law_random : Cal P w K mg base 2 "_law_random" (toSp K d__law_random) []) {f : Addr} {cdv : Value} {A : Around} {outer : List Env} {s : Shared} {H : Hp} {E : XK} (hr : Room 2 (A.deeper (envOfC "_law_pick" (defScope (top 34)) s.heap.objs.size f cdv))) : ∃ t, DSs (cxOf CX0 P w K mg base N__law_pick "_law_pick" (defScope (top 34)) f cdv A outer s H E).nox (defBody (top 34)) t q__law_pick := ⟨_, dss_one (ds_ret (dq_ix (dq_var 1 (pv 1)) (dq_cO 0 c__law_random hr (by decide) rfl (pv 0) (da_cons (dq_callB cr_len oa_len rfl G.b_len (by decide +kernel) (da_cons (dq_var 1 (pv 1)) (da_nil))) (da_nil)))))⟩
abbrev N__law_lowest : List Str := ["top", "under", "one", "other"]
abbrev P__law_lowest : List Str := ["top", "under"]
theorem sc__law_lowest : FnScope N__law_lowest P__law_lowest (defScope (top 35)) := ⟨rfl, rfl, rfl, by decide +kernel, rfl, by decide +kernel, by decide +kernel⟩
def q__law_lowest : QS := qSeq (qPar (qCB kAbs (qCons (qVar 0) (qNil))) (qCB kAbs (qCons (qVar 1) (qNil))) 2 3) (qSeq (qWhile (qTest (q2 kGt (qVar 3) (qC (.int 0)))) (qPar (qVar 3) (q2 kSub (qVar 2) (q2 kMul (q2 kFdiv (qVar 2) (qVar 3)) (qVar 3))) 2 3)) (qRet (qIf (qTest (q2 kGt (qVar 1) (qC (.int 0)))) (qTup (qCons (q2 kFdiv (qVar 0) (qVar 2)) (qCons (q2 kFdiv (qVar 1) (qVar 2)) (qNil)))) (qTup (qCons (q2 kSub (qC (.int 0)) (q2 kFdiv (qVar 0) (qVar 2))) (qCons (q2 kSub (qC (.int 0)) (q2 kFdiv (qVar 1) (qVar 2))) (qNil)))))))
theorem der__law_lowest {P : Program} {w : World} {K : PySem.W.Frag} {mg : Str → Option Value} {base : Heap} (G : Gm K mg) {f : Addr} {cdv : Value} {A : Around} {outer : List Env} {s : Shared} {H : Hp} {E : XK} (hr : Room 0 (A.deeper (envOfC "_law_lowest" (defScope (top 35)) s.heap.objs.size f cdv))) : ∃ t, DSs (cxOf CX0 P w K mg base N__law_lowest "_law_lowest" (defScope (top 35)) f cdv A outer s H E).nox (defBody (top 35)) t q__law_lowest := ⟨_, dss_cons (ds_set2 2 3 rfl sc__law_lowest.nd (dq_callB cr_abs oa_abs rfl G.b_abs (by decide +kernel) (da_cons (dq_var 0 (pv 0)) (da_nil))) (dq_callB cr_abs oa_abs rfl G.b_abs (by decide +kernel) (da_cons (dq_var 1 (pv 1)) (da_nil)))) (dss_cons (ds_while PassesOwn.never (dt_cmp op_gt o2_gt (dq_var 3 (pv 3)) (dq_int) (nomark _)) (dss_one (ds_set2 2 3 rfl sc__law_lowest.nd (dq_var 3 (pv 3)) (dq_sub (dq_var 2 (pv 2)) (dq_mulA (dq_fdiv (dq_var 2 (pv 2)) (dq_var 3 (pv 3))) (dq_var 3 (pv 3))))))) (dss_one (ds_ret (dq_if (dt_cmp op_gt o2_gt (dq_var 1 (pv 1)) (dq_int) (nomark _)) (dq_tup (da_cons (dq_fdiv (dq_var 0 (pv 0)) (dq_var 2 (pv 2))) (da_cons (dq_fdiv (dq_var 1 (pv 1)) (dq_var 2 (pv 2))) (da_nil)))) (dq_tup (da_cons (dq_sub (dq_int) (dq_fdiv (dq_var 0 (pv 0)) (dq_var 2 (pv 2)))) (da_cons (dq_sub (dq_int) (dq_fdiv (dq_var 1 (pv 1)) (dq_var 2 (pv 2)))) (da_nil))))))))⟩
abbrev N__law_times : List Str := ["one", "other"]
abbrev P__law_times : List Str := ["one", "other"]
theorem sc__law_times : FnScope N__law_times P__law_times (defScope (top 36)) := ⟨rfl, rfl, rfl, by decide +kernel, rfl, by decide +kernel, by decide +kernel⟩
def q__law_times : QS := qRet (qCall d__law_lowest (qCons (q2 kMul (q2 ixq (qVar 0) (qC (.int 0))) (q2 ixq (qVar 1) (qC (.int 0)))) (qCons (q2 kMul (q2 ixq (qVar 0) (qC (.int 1))) (q2 ixq (qVar 1) (qC (.int 1)))) (qNil))))
theorem der__law_times {P : Program} {w : World} {K : PySem.W.Frag} {mg : Str → Option Value} {base : Heap} (G : Gm K mg) (c__law_lowest : Cal P w K mg base 1 "_law_lowest" (toSp K d__law_lowest) []) {f : Addr} {cdv : Value} {A : Around} {outer : List Env} {s : Shared} {H : Hp} {E : XK} (hr : Room 1 (A.deeper (envOfC "_law_times" (defScope (top 36)) s.heap.objs.size f cdv))) : ∃ t, DSs (cxOf CX0 P w K mg base N__law_times "_law_times" (defScope (top 36)) f cdv A outer s H E).nox (defBody (top 36)) t q__law_times := ⟨_, dss_one (ds_ret (dq_c c__law_lowest hr (by decide) rfl (da_cons (dq_mulA (dq_ix (dq_var 0 (pv 0)) (dq_int)) (dq_ix (dq_var 1 (pv 1)) (dq_int))) (da_cons (dq_mulA (dq_ix (dq_var 0 (pv 0)) (dq_int)) (dq_ix (dq_var 1 (pv 1)) (dq_int))) (da_nil)))))⟩
abbrev N__law_is_fraction : List Str := ["value", "one"]
abbrev P__law_is_fraction : List Str := ["value"]
theorem sc__law_is_fraction : FnScope N__law_is_fraction P__law_is_fraction (defScope (top 37)) := ⟨rfl, rfl, rfl, by decide +kernel, rfl, by decide +kernel, by decide +kernel⟩
def q__law_is_fraction : QS := qSeq (qIfS (qOr (qNot (qTest (qIsi "tuple" (qVar 0)))) (qOr (qTest (q2 kNe (qCB kLen (qCons (qVar 0) (qNil))) (qC (.int 2)))) (qTest (q2 kNe (qLc (qIT (qVar 0)) (qgN 1) (qOr (qTest (qIsi "bool" (qVar 1))) (qNot (qTest (qIsi "int" (qVar 1))))) (qC (.int 1)) [1]) (qLst (qNil)))))) (qRet (qC (.bool false))) (qNext)) (qRet (qAndV (q2 kGt (q2 ixq (qVar 0) (qC (.int 1))) (qC (.int 0))) (q2 kEq (qCall d__law_lowest (qCons (q2 ixq (qVar 0) (qC (.int 0))) (qCons (q2 ixq (qVar 0) (qC (.int 1))) (qNil)))) (qVar 0))))
theorem der__law_is_fraction {P : Program} {w : World} {K : PySem.W.Frag} {mg : Str → Option Value} {base : Heap} (G : Gm K mg) (c__law_lowest : Cal P w K mg base 1 "_law_lowest" (toSp K d__law_lowest) []) {f : Addr} {cdv : Value} {A : Around} {outer : List Env} {s : Shared} {H : Hp} {E : XK} (hr : Room 1 (A.deeper (envOfC "_law_is_fraction" (defScope (top 37)) s.heap.objs.size f cdv))) : ∃ t, DSs (cxOf CX0 P w K mg base N__law_is_fraction "_law_is_fraction" (defScope (top 37)) f cdv A outer s H E).nox (defBody (top 37)) t q__law_is_fraction := ⟨_, dss_cons (ds_if (DW.dt (dw_or (dt_not (dt_val (dq_isi (n := "tuple") rfl G.b_isinstance rfl G.b_tuple (by decide +kernel) (dq_var 0 (pv 0))))) (dw_or (dt_cmp (op_neA hr.units) o2_ne (dq_callB cr_len oa_len rfl G.b_len (by decide +kernel) (da_cons (dq_var 0 (pv 0)) (da_nil))) (dq_int) (nomark _)) (dw_or1 (dt_cmp (op_neA hr.units) o2_ne (dq_lc (own := [("one", 1)]) (tt := tOr (tTest (tCB (rIsi K) (tCons (tVar 1) (tCons (tC (.ty "bool")) tNil)))) (tNot (tTest (tCB (rIsi K) (tCons (tVar 1) (tCons (tC (.ty "int")) tNil)))))) (te := tC (.int 1)) (g := gName 1) rfl sc__law_is_fraction.nd (di_tup (dq_var 0 (pv 0))) (blkOk_by (N := N__law_is_fraction) (sc := defScope (top 37)) (own := [("one", 1)]) (by decide +kernel)) (fun _ _ _ _ _ => dg_name 1 (pg_name (i := 1) sc__law_is_fraction.nd rfl (by first | exact .inl rfl | exact .inr rfl))) (fun _ _ _ _ _ => dts_one (DW.dt (dw_or (dt_val (dq_isi (n := "bool") rfl G.b_isinstance rfl G.b_bool (by decide +kernel) (dq_var 1 (pv 1)))) (dw_or1 (dt_not (dt_val (dq_isi (n := "int") rfl G.b_isinstance rfl G.b_int (by decide +kernel) (dq_var 1 (pv 1))))))))) (fun _ _ _ _ _ => dq_int)) (dq_lst (da_nil)) (nomark _)))))) (dss_one (ds_ret (dq_bl))) (dss_nil)) (dss_one (ds_ret (dq_and (dq_cmp op_gt o2_gt (dq_ix (dq_var 0 (pv 0)) (dq_int)) (dq_int) (nomark _)) (dq_one (dq_cmp (op_eqA hr.units) o2_eq (dq_c c__law_lowest hr (by decide) rfl (da_cons (dq_ix (dq_var 0 (pv 0)) (dq_int)) (da_cons (dq_ix (dq_var 0 (pv 0)) (dq_int)) (da_nil)))) (dq_var 0 (pv 0)) (nomark _))))))⟩
abbrev N__law_alike : List Str := ["one", "other", "early", "late"]
abbrev P__law_alike : List Str := ["one", "other"]
theorem sc__law_alike : FnScope N__law_alike P__law_alike (defScope (top 38)) := ⟨rfl, rfl, rfl, by decide +kernel, rfl, by decide +kernel, by decide +kernel⟩
def q__law_alike : QS := qSeq (qFor (qR1 (qCons (qCB kLen (qCons (qVar 0) (qNil))) (qNil))) (qgN 2) (qFor (qR1 (qCons (qVar 2) (qNil))) (qgN 3) (qIfS (qTest (q2 kNe (qCall d__law_times (qCons (q2 ixq (qVar 0) (qVar 2)) (qCons (q2 ixq (qVar 1) (qVar 3)) (qNil)))) (qCall d__law_times (qCons (q2 ixq (qVar 0) (qVar 3)) (qCons (q2 ixq (qVar 1) (qVar 2)) (qNil)))))) (qRet (qC (.bool false))) (qNext)))) (qRet (qC (.bool true)))
theorem der__law_alike {P : Program} {w : World} {K : PySem.W.Frag} {mg : Str → Option Value} {base : Heap} (G : Gm K mg) (c__law_times : Cal P w K mg base 2 "_law_times" (toSp K d__law_times) []) {f : Addr} {cdv : Value} {A : Around} {outer : List Env} {s : Shared} {H : Hp} {E : XK} (hr : Room 2 (A.deeper (envOfC "_law_alike" (defScope (top 38)) s.heap.objs.size f cdv))) : ∃ t, DSs (cxOf CX0 P w K mg base N__law_alike "_law_alike" (defScope (top 38)) f cdv A outer s H E).nox (defBody (top 38)) t q__law_alike := ⟨_, dss_cons (ds_for PassesOwn.never rfl (di_range1 rfl G.b_range (da_cons (dq_callB cr_len oa_len rfl G.b_len (by decide +kernel) (da_cons (dq_var 0 (pv 0)) (da_nil))) (da_nil))) (dg_name 2 (pg_name (i := 2) sc__law_alike.nd rfl (by first | exact .inl rfl | exact .inr rfl))) (dss_one (ds_for PassesOwn.never rfl (di_range1 rfl G.b_range (da_cons (dq_var 2 (pv 2)) (da_nil))) (dg_name 3 (pg_name (i := 3) sc__law_alike.nd rfl (by first | exact .inl rfl | exact .inr rfl))) (dss_one (ds_if (dt_cmp (op_neA hr.units) o2_ne (dq_c c__law_times hr (by decide) rfl (da_cons (dq_ix (dq_var 0 (pv 0)) (dq_var 2 (pv 2))) (da_cons (dq_ix (dq_var 1 (pv 1)) (dq_var 3 (pv 3))) (da_nil)))) (dq_c c__law_times hr (by decide) rfl (da_cons (dq_ix (dq_var 0 (pv 0)) (dq_var 3 (pv 3))) (da_cons (dq_ix (dq_var 1 (pv 1)) (dq_var 2 (pv 2))) (da_nil)))) (nomark _)) (dss_one (ds_ret (dq_bl))) (dss_nil)))))) (dss_one (ds_ret (dq_bl)))⟩
abbrev N__law_plane : List Str := ["generator", "many", "row", "at", "one"]
abbrev P__law_plane : List Str := ["generator", "many"]
theorem sc__law_plane : FnScope N__law_plane P__law_plane (defScope (top 39)) := ⟨rfl, rfl, rfl, by decide +kernel, rfl, by decide +kernel, by decide +kernel⟩
def q__law_plane : QS := qSeq (qAsgO (qLc (qR1 (qCons (qVar 1) (qNil))) (qgN 3) (qYes) (qCall d__law_lowest (qCons (q2 kSub (qCallO 0 d__law_random (qCons (qC (.int 5)) (qNil))) (qC (.int 2))) (qCons (qC (.int 1)) (qNil)))) [3]) 2) (qSeq (qIfS (qLendT (qTest (q2 kEq (qLc (qIL (qVar 2)) (qgN 4) (qTest (q2 kNe (q2 ixq (qVar 4) (qC (.int 0))) (qC (.int 0)))) (qVar 4) [4]) (qLst (qNil))))) (qStN 2 (qCallO 0 d__law_random (qCons (qVar 1) (qNil))) (qTup (qCons (qC (.int 1)) (qCons (qC (.int 1)) (qNil))))) (qNext)) (qFrz 2 (qRet (q2 kAdd (qVar 2) (qLst (qCons (qCall d__law_lowest (qCons (q2 kSub (qCallO 0 d__law_random (qCons (qC (.int 7)) (qNil))) (qC (.int 3))) (qCons (q2 kAdd (qC (.int 1)) (qCallO 0 d__law_random (qCons (qC (.int 2)) (qNil)))) (qNil)))) (qNil)))))))
theorem der__law_plane {P : Program} {w : World} {K : PySem.W.Frag} {mg : Str → Option Value} {base : Heap} (G : Gm K mg) (c__law_lowest : Cal P w K mg base 1 "_law_lowest" (toSp K d__law_lowest) []) (c__law_random : Cal P w K mg base 2 "_law_random" (toSp K d__law_random) []) {f : Addr} {cdv : Value} {A : Around} {outer : List Env} {s : Shared} {H : Hp} {E : XK} (hr : Room 2 (A.deeper (envOfC "_law_plane" (defScope (top 39)) s.heap.objs.size f cdv))) : ∃ t, DSs (cxOf CX0 P w K mg base N__law_plane "_law_plane" (defScope (top 39)) f cdv A outer s H E).nox (defBody (top 39)) t q__law_plane := ⟨_, dss_cons (ds_asgLcO (i := 2) (own := [("at", 3)]) (tt := tYes) (te := tCall (toSp K d__law_lowest) [] E0 (tCons (tOp rSubI (tCall (toSp K d__law_random) [] E0 (tCons (tVar 0) (tCons (tC (.int 5)) (tNil)))) (tC (.int 2))) (tCons (tC (.int 1)) (tNil)))) (g := gName 3) rfl sc__law_plane.nd rfl rfl (sw_true rfl rfl rfl (by decide +kernel)) (di_range1 rfl G.b_range (da_cons (dq_var 1 (pv 1)) (da_nil))) (blkOk_by (N := N__law_plane) (sc := defScope (top 39)) (own := [("at", 3)]) (by decide +kernel)) (fun _ _ _ _ _ => dg_name 3 (pg_name (i := 3) sc__law_plane.nd rfl (by first | exact .inl rfl | exact .inr rfl))) (fun _ _ _ _ _ => dts_nil) (fun _ _ _ _ _ => dq_c c__law_lowest hr (by decide) rfl (da_cons (dq_sub (dq_cO 0 c__law_random hr (by decide) rfl (pv 0) (da_cons (dq_int) (da_nil))) (dq_int)) (da_cons (dq_int) (da_nil))))) (dss_cons (ds_if (dt_lend (dt_cmp (op_eqA hr.units) o2_eq (dq_lc (own := [("one", 4)]) (tt := tTest (tOp (rNeA K) (tOp (rIx K) (tVar 4) (tC (.int 0))) (tC (.int 0)))) (te := tVar 4) (g := gName 4) rfl sc__law_plane.nd (di_list (dq_var 2 (pv 2))) (blkOk_by (N := N__law_plane) (sc := defScope (top 39)) (own := [("one", 4)]) (by decide +kernel)) (fun _ _ _ _ _ => dg_name 4 (pg_name (i := 4) sc__law_plane.nd rfl (by first | exact .inl rfl | exact .inr rfl))) (fun _ _ _ _ _ => dts_one (dt_cmp (op_neA hr.units) o2_ne (dq_ix (dq_var 4 (pv 4)) (dq_int)) (dq_int) (nomark _))) (fun _ _ _ _ _ => dq_var 4 (pv 4))) (dq_lst (da_nil)) (nomark _))) (dss_one (ds_stN 2 (pv 2) (dq_tup (da_cons (dq_int) (da_cons (dq_int) (da_nil)))) (dq_cO 0 c__law_random hr (by decide) rfl (pv 0) (da_cons (dq_var 1 (pv 1)) (da_nil))))) (dss_nil)) (dss_one (ds_frz 2 (ds_ret (dq_add (dq_var 2 (pv 2)) (dq_lst (da_cons (dq_c c__law_lowest hr (by decide) rfl (da_cons (dq_sub (dq_cO 0 c__law_random hr (by decide) rfl (pv 0) (da_cons (dq_int) (da_nil))) (dq_int)) (da_cons (dq_add (dq_int) (dq_cO 0 c__law_random hr (by decide) rfl (pv 0) (da_cons (dq_int) (da_nil)))) (da_nil)))) (da_nil))))))))⟩
abbrev N__law_planes : List Str := ["generator", "many", "rows", "turn", "row", "other"]
abbrev P__law_planes : List Str := ["generator"]
theorem sc__law_planes : FnScope N__law_planes P__law_planes (defScope (top 40)) := ⟨rfl, rfl, rfl, by decide +kernel, rfl, by decide +kernel, by decide +kernel⟩
def q__law_planes : QS := qSeq (qAsg (qCallO 0 d__law_pick (qCons (qLst (qCons (qC (.int 1)) (qCons (qC (.int 2)) (qCons (qC (.int 2)) (qCons (qC (.int 2)) (qCons (qC (.int 3)) (qNil))))))) (qNil))) 1) (qSeq (qAsgO (qLst (qNil)) 2) (qSeq (qFor (qR1 (qCons (q2 kAdd (qC (.int 1)) (qCallO 0 d__law_random (qCons (q2 ixq (qLst (qCons (qC (.int 5)) (qCons (qC (.int 5)) (qCons (qC (.int 4)) (qNil))))) (q2 kSub (qVar 1) (qC (.int 1)))) (qNil)))) (qNil))) (qgN 3) (qSeq (qAsg (qCallO 0 d__law_plane (qCons (qVar 1) (qNil))) 4) (qIfS (qLendT (qTest (q2 kEq (qLc (qIL (qVar 2)) (qgN 5) (qTest (qCall d__law_alike (qCons (qVar 4) (qCons (qVar 5) (qNil))))) (qVar 5) [5]) (qLst (qNil))))) (qApN 2 (qVar 4)) (qNext)))) (qFrz 2 (qRet (qTup (qCons (qC (.str "planes")) (qCons (qVar 1) (qCons (qVar 2) (qNil)))))))))
theorem der__law_planes {P : Program} {w : World} {K : PySem.W.Frag} {mg : Str → Option Value} {base : Heap} (G : Gm K mg) (c__law_pick : Cal P w K mg base 3 "_law_pick" (toSp K d__law_pick) []) (c__law_random : Cal P w K mg base 2 "_law_random" (toSp K d__law_random) []) (c__law_plane : Cal P w K mg base 3 "_law_plane" (toSp K d__law_plane) []) (c__law_alike : Cal P w K mg base 3 "_law_alike" (toSp K d__law_alike) []) {f : Addr} {cdv : Value} {A : Around} {outer : List Env} {s : Shared} {H : Hp} {E : XK} (hr : Room 3 (A.deeper (envOfC "_law_planes" (defScope (top 40)) s.heap.objs.size f cdv))) : ∃ t, DSs (cxOf CX0 P w K mg base N__law_planes "_law_planes" (defScope (top 40)) f cdv A outer s H E).nox (defBody (top 40)) t q__law_planes := ⟨_, dss_cons (ds_set 1 sc__law_planes.nd (dq_cO 0 c__law_pick hr (by decide) rfl (pv 0) (da_cons (dq_lst (da_cons (dq_int) (da_cons (dq_int) (da_cons (dq_int) (da_cons (dq_int) (da_cons (dq_int) (da_nil))))))) (da_nil)))) (dss_cons (ds_setO 2 sc__law_planes.nd (dq_lst (da_nil))) (dss_cons (ds_for PassesOwn.never rfl (di_range1 rfl G.b_range (da_cons (dq_add (dq_int) (dq_cO 0 c__law_random hr (by decide) rfl (pv 0) (da_cons (dq_ix (dq_lst (da_cons (dq_int) (da_cons (dq_int) (da_cons (dq_int) (da_nil))))) (dq_sub (dq_var 1 (pv 1)) (dq_int))) (da_nil)))) (da_nil))) (dg_name 3 (pg_name (i := 3) sc__law_planes.nd rfl (by first | exact .inl rfl | exact .inr rfl))) (dss_cons (ds_set 4 sc__law_planes.nd (dq_cO 0 c__law_plane hr (by decide) rfl (pv 0) (da_cons (dq_var 1 (pv 1)) (da_nil)))) (dss_one (ds_if (dt_lend (dt_cmp (op_eqA hr.units) o2_eq (dq_lc (own := [("other", 5)]) (tt := tTest (tCall (toSp K d__law_alike) [] E0 (tCons (tVar 4) (tCons (tVar 5) (tNil))))) (te := tVar 5) (g := gName 5) rfl sc__law_planes.nd (di_list (dq_var 2 (pv 2))) (blkOk_by (N := N__law_planes) (sc := defScope (top 40)) (own := [("other", 5)]) (by decide +kernel)) (fun _ _ _ _ _ => dg_name 5 (pg_name (i := 5) sc__law_planes.nd rfl (by first | exact .inl rfl | exact .inr rfl))) (fun _ _ _ _ _ => dts_one (dt_val (dq_c c__law_alike hr (by decide) rfl (da_cons (dq_var 4 (pv 4)) (da_cons (dq_var 5 (pv 5)) (da_nil)))))) (fun _ _ _ _ _ => dq_var 5 (pv 5))) (dq_lst (da_nil)) (nomark _))) (dss_one (ds_apN 2 (pv 2) (dq_var 4 (pv 4)))) (dss_nil))))) (dss_one (ds_frz 2 (ds_ret (dq_tup (da_cons (dq_str) (da_cons (dq_var 1 (pv 1)) (da_cons (dq_var 2 (pv 2)) (da_nil))))))))))⟩
abbrev N__law_word : List Str := ["number"]
abbrev P__law_word : List Str := ["number"]
theorem sc__law_word : FnScope N__law_word P__law_word (defScope (top 41)) := ⟨rfl, rfl, rfl, by decide +kernel, rfl, by decide +kernel, by decide +kernel⟩
def q__law_word : QS := qRet (qIf (qTest (q2 kEq (q2 ixq (qVar 0) (qC (.int 1))) (qC (.int 1)))) (qCB kStr (qCons (q2 ixq (qVar 0) (qC (.int 0))) (qNil))) (q2 kAdd (q2 kAdd (qCB kStr (qCons (q2 ixq (qVar 0) (qC (.int 0))) (qNil))) (qC (.str "/"))) (qCB kStr (qCons (q2 ixq (qVar 0) (qC (.int 1))) (qNil)))))
theorem der__law_word {P : Program} {w : World} {K : PySem.W.Frag} {mg : Str → Option Value} {base : Heap} (G : Gm K mg) {f : Addr} {cdv : Value} {A : Around} {outer : List Env} {s : Shared} {H : Hp} {E : XK} (hr : Room 0 (A.deeper (envOfC "_law_word" (defScope (top 41)) s.heap.objs.size f cdv))) : ∃ t, DSs (cxOf CX0 P w K mg base N__law_word "_law_word" (defScope (top 41)) f cdv A outer s H E).nox (defBody (top 41)) t q__law_word := ⟨_, dss_one (ds_ret (dq_if (dt_cmp (op_eqA hr.units) o2_eq (dq_ix (dq_var 0 (pv 0)) (dq_int)) (dq_int) (nomark _)) (dq_callTy cr_str oa_str rfl G.b_str (by decide +kernel) (da_cons (dq_ix (dq_var 0 (pv 0)) (dq_int)) (da_nil))) (dq_add (dq_add (dq_callTy cr_str oa_str rfl G.b_str (by decide +kernel) (da_cons (dq_ix (dq_var 0 (pv 0)) (dq_int)) (da_nil))) (dq_str)) (dq_callTy cr_str oa_str rfl G.b_str (by decide +kernel) (da_cons (dq_ix (dq_var 0 (pv 0)) (dq_int)) (da_nil))))))⟩
abbrev N__law_words : List Str := ["row", "number"]
abbrev P__law_words : List Str := ["row"]
theorem sc__law_words : FnScope N__law_words P__law_words (defScope (top 42)) := ⟨rfl, rfl, rfl, by decide +kernel, rfl, by decide +kernel, by decide +kernel⟩
def q__law_words : QS := qRet (qJoin (qC (.str " ")) (qLc (qIL (qVar 0)) (qgN 1) (qYes) (qCall d__law_word (qCons (qVar 1) (qNil))) [1]))
theorem der__law_words {P : Program} {w : World} {K : PySem.W.Frag} {mg : Str → Option Value} {base : Heap} (G : Gm K mg) (c__law_word : Cal P w K mg base 1 "_law_word" (toSp K d__law_word) []) {f : Addr} {cdv : Value} {A : Around} {outer : List Env} {s : Shared} {H : Hp} {E : XK} (hr : Room 1 (A.deeper (envOfC "_law_words" (defScope (top 42)) s.heap.objs.size f cdv))) : ∃ t, DSs (cxOf CX0 P w K mg base N__law_words "_law_words" (defScope (top 42)) f cdv A outer s H E).nox (defBody (top 42)) t q__law_words := ⟨_, dss_one (ds_ret (dq_join (dq_str) (dq_lc (own := [("number", 1)]) (tt := tYes) (te := tCall (toSp K d__law_word) [] E0 (tCons (tVar 1) (tNil))) (g := gName 1) rfl sc__law_words.nd (di_list (dq_var 0 (pv 0))) (blkOk_by (N := N__law_words) (sc := defScope (top 42)) (own := [("number", 1)]) (by decide +kernel)) (fun _ _ _ _ _ => dg_name 1 (pg_name (i := 1) sc__law_words.nd rfl (by first | exact .inl rfl | exact .inr rfl))) (fun _ _ _ _ _ => dts_nil) (fun _ _ _ _ _ => dq_c c__law_word hr (by decide) rfl (da_cons (dq_var 1 (pv 1)) (da_nil))))))⟩
abbrev N__law_text : List Str := ["planes", "lines", "row", "line"]
abbrev P__law_text : List Str := ["planes"]
theorem sc__law_text : FnScope N__law_text P__law_text (defScope (top 43)) := ⟨rfl, rfl, rfl, by decide +kernel, rfl, by decide +kernel, by decide +kernel⟩
def q__law_text : QS := qSeq (qAsg (q2 kAdd (qLst (qCons (q2 kAdd (qC (.str "dimensions ")) (qCB kStr (qCons (q2 ixq (qVar 0) (qC (.int 1))) (qNil)))) (qNil))) (qLc (qIL (q2 ixq (qVar 0) (qC (.int 2)))) (qgN 2) (qYes) (qCall d__law_words (qCons (qVar 2) (qNil))) [2])) 1) (qRet (qJoin (qC (.str "")) (qLc (qIL (qVar 1)) (qgN 3) (qYes) (q2 kAdd (qVar 3) (qC (.str "\n"))) [3])))
theorem der__law_text {P : Program} {w : World} {K : PySem.W.Frag} {mg : Str → Option Value} {base : Heap} (G : Gm K mg) (c__law_words : Cal P w K mg base 2 "_law_words" (toSp K d__law_words) []) {f : Addr} {cdv : Value} {A : Around} {outer : List Env} {s : Shared} {H : Hp} {E : XK} (hr : Room 2 (A.deeper (envOfC "_law_text" (defScope (top 43)) s.heap.objs.size f cdv))) : ∃ t, DSs (cxOf CX0 P w K mg base N__law_text "_law_text" (defScope (top 43)) f cdv A outer s H E).nox (defBody (top 43)) t q__law_text := ⟨_, dss_cons (ds_set 1 sc__law_text.nd (dq_add (dq_lst (da_cons (dq_add (dq_str) (dq_callTy cr_str oa_str rfl G.b_str (by decide +kernel) (da_cons (dq_ix (dq_var 0 (pv 0)) (dq_int)) (da_nil)))) (da_nil))) (dq_lc (own := [("row", 2)]) (tt := tYes) (te := tCall (toSp K d__law_words) [] E0 (tCons (tVar 2) (tNil))) (g := gName 2) rfl sc__law_text.nd (di_list (dq_ix (dq_var 0 (pv 0)) (dq_int))) (blkOk_by (N := N__law_text) (sc := defScope (top 43)) (own := [("row", 2)]) (by decide +kernel)) (fun _ _ _ _ _ => dg_name 2 (pg_name (i := 2) sc__law_text.nd rfl (by first | exact .inl rfl | exact .inr rfl))) (fun _ _ _ _ _ => dts_nil) (fun _ _ _ _ _ => dq_c c__law_words hr (by decide) rfl (da_cons (dq_var 2 (pv 2)) (da_nil)))))) (dss_one (ds_ret (dq_join (dq_str) (dq_lc (own := [("line", 3)]) (tt := tYes) (te := tOp (rAddA K) (tVar 3) (tC (.str "\n"))) (g := gName 3) rfl sc__law_text.nd (di_list (dq_var 1 (pv 1))) (blkOk_by (N := N__law_text) (sc := defScope (top 43)) (own := [("line", 3)]) (by decide +kernel)) (fun _ _ _ _ _ => dg_name 3 (pg_name (i := 3) sc__law_text.nd rfl (by first | exact .inl rfl | exact .inr rfl))) (fun _ _ _ _ _ => dts_nil) (fun _ _ _ _ _ => dq_add (dq_var 3 (pv 3)) (dq_str))))))⟩
abbrev N__law_is_row : List Str := ["value", "many", "one"]
abbrev P__law_is_row : List Str := ["value", "many"]
theorem sc__law_is_row : FnScope N__law_is_row P__law_is_row (defScope (top 44)) := ⟨rfl, rfl, rfl, by decide +kernel, rfl, by decide +kernel, by decide +kernel⟩
def q__law_is_row : QS := qRet (qAndV (qIsi "list" (qVar 0)) (qAndV (q2 kEq (qCB kLen (qCons (qVar 0) (qNil))) (qVar 1)) (q2 kEq (qLc (qIL (qVar 0)) (qgN 2) (qNot (qTest (qCall d__law_is_fraction (qCons (qVar 2) (qNil))))) (qVar 2) [2]) (qLst (qNil)))))
theorem der__law_is_row {P : Program} {w : World} {K : PySem.W.Frag} {mg : Str → Option Value} {base : Heap} (G : Gm K mg) (c__law_is_fraction : Cal P w K mg base 2 "_law_is_fraction" (toSp K d__law_is_fraction) []) {f : Addr} {cdv : Value} {A : Around} {outer : List Env} {s : Shared} {H : Hp} {E : XK} (hr : Room 2 (A.deeper (envOfC "_law_is_row" (defScope (top 44)) s.heap.objs.size f cdv))) : ∃ t, DSs (cxOf CX0 P w K mg base N__law_is_row "_law_is_row" (defScope (top 44)) f cdv A outer s H E).nox (defBody (top 44)) t q__law_is_row := ⟨_, dss_one (ds_ret (dq_and (dq_isi (n := "list") rfl G.b_isinstance rfl G.b_list (by decide +kernel) (dq_var 0 (pv 0))) (dq_and (dq_cmp (op_eqA hr.units) o2_eq (dq_callB cr_len oa_len rfl G.b_len (by decide +kernel) (da_cons (dq_var 0 (pv 0)) (da_nil))) (dq_var 1 (pv 1)) (nomark _)) (dq_one (dq_cmp (op_eqA hr.units) o2_eq (dq_lc (own := [("one", 2)]) (tt := tNot (tTest (tCall (toSp K d__law_is_fraction) [] E0 (tCons (tVar 2) (tNil))))) (te := tVar 2) (g := gName 2) rfl sc__law_is_row.nd (di_list (dq_var 0 (pv 0))) (blkOk_by (N := N__law_is_row) (sc := defScope (top 44)) (own := [("one", 2)]) (by decide +kernel)) (fun _ _ _ _ _ => dg_name 2 (pg_name (i := 2) sc__law_is_row.nd rfl (by first | exact .inl rfl | exact .inr rfl))) (fun _ _ _ _ _ => dts_one (dt_not (dt_val (dq_c c__law_is_fraction hr (by decide) rfl (da_cons (dq_var 2 (pv 2)) (da_nil)))))) (fun _ _ _ _ _ => dq_var 2 (pv 2))) (dq_lst (da_nil)) (nomark _))))))⟩
abbrev N__law_can_put : List Str := ["planes", "row", "other", "one"]
abbrev P__law_can_put : List Str := ["planes", "row"]
theorem sc__law_can_put : FnScope N__law_can_put P__law_can_put (defScope (top 45)) := ⟨rfl, rfl, rfl, by decide +kernel, rfl, by decide +kernel, by decide +kernel⟩
def q__law_can_put : QS := qSeq (qIfS (qOr (qNot (qTest (qCall d__law_is_row (qCons (qVar 1) (qCons (q2 kAdd (q2 ixq (qVar 0) (qC (.int 1))) (qC (.int 1))) (qNil)))))) (qOr (qTest (q2 kEq (qLc (qIL (qSl (qVar 1) (qNoPart) (qPart (q1 kNeg (qC (.int 1)))))) (qgN 3) (qTest (q2 kNe (q2 ixq (qVar 3) (qC (.int 0))) (qC (.int 0)))) (qVar 3) [3]) (qLst (qNil)))) (qTest (q2 kGt (qCB kLen (qCons (q2 ixq (qVar 0) (qC (.int 2))) (qNil))) (qC (.int 7)))))) (qRet (qC (.bool false))) (qNext)) (qRet (q2 kEq (qLc (qIL (q2 ixq (qVar 0) (qC (.int 2)))) (qgN 2) (qTest (qCall d__law_alike (qCons (qVar 1) (qCons (qVar 2) (qNil))))) (qVar 2) [2]) (qLst (qNil))))
theorem der__law_can_put {P : Program} {w : World} {K : PySem.W.Frag} {mg : Str → Option Value} {base : Heap} (G : Gm K mg) (c__law_is_row : Cal P w K mg base 3 "_law_is_row" (toSp K d__law_is_row) []) (c__law_alike : Cal P w K mg base 3 "_law_alike" (toSp K d__law_alike) []) {f : Addr} {cdv : Value} {A : Around} {outer : List Env} {s : Shared} {H : Hp} {E : XK} (hr : Room 3 (A.deeper (envOfC "_law_can_put" (defScope (top 45)) s.heap.objs.size f cdv))) : ∃ t, DSs (cxOf CX0 P w K mg base N__law_can_put "_law_can_put" (defScope (top 45)) f cdv A outer s H E).nox (defBody (top 45)) t q__law_can_put := ⟨_, dss_cons (ds_if (DW.dt (dw_or (dt_not (dt_val (dq_c c__law_is_row hr (by decide) rfl (da_cons (dq_var 1 (pv 1)) (da_cons (dq_add (dq_ix (dq_var 0 (pv 0)) (dq_int)) (dq_int)) (da_nil)))))) (dw_or (dt_cmp (op_eqA hr.units) o2_eq (dq_lc (own := [("one", 3)]) (tt := tTest (tOp (rNeA K) (tOp (rIx K) (tVar 3) (tC (.int 0))) (tC (.int 0)))) (te := tVar 3) (g := gName 3) rfl sc__law_can_put.nd (di_list (dq_slice (dq_var 1 (pv 1)) (do_none) (do_some (dq_neg (dq_int))))) (blkOk_by (N := N__law_can_put) (sc := defScope (top 45)) (own := [("one", 3)]) (by decide +kernel)) (fun _ _ _ _ _ => dg_name 3 (pg_name (i := 3) sc__law_can_put.nd rfl (by first | exact .inl rfl | exact .inr rfl))) (fun _ _ _ _ _ => dts_one (dt_cmp (op_neA hr.units) o2_ne (dq_ix (dq_var 3 (pv 3)) (dq_int)) (dq_int) (nomark _))) (fun _ _ _ _ _ => dq_var 3 (pv 3))) (dq_lst (da_nil)) (nomark _)) (dw_or1 (dt_cmp op_gt o2_gt (dq_callB cr_len oa_len rfl G.b_len (by decide +kernel) (da_cons (dq_ix (dq_var 0 (pv 0)) (dq_int)) (da_nil))) (dq_int) (nomark _)))))) (dss_one (ds_ret (dq_bl))) (dss_nil)) (dss_one (ds_ret (dq_cmp (op_eqA hr.units) o2_eq (dq_lc (own := [("other", 2)]) (tt := tTest (tCall (toSp K d__law_alike) [] E0 (tCons (tVar 1) (tCons (tVar 2) (tNil))))) (te := tVar 2) (g := gName 2) rfl sc__law_can_put.nd (di_list (dq_ix (dq_var 0 (pv 0)) (dq_int))) (blkOk_by (N := N__law_can_put) (sc := defScope (top 45)) (own := [("other", 2)]) (by decide +kernel)) (fun _ _ _ _ _ => dg_name 2 (pg_name (i := 2) sc__law_can_put.nd rfl (by first | exact .inl rfl | exact .inr rfl))) (fun _ _ _ _ _ => dts_one (dt_val (dq_c c__law_alike hr (by decide) rfl (da_cons (dq_var 1 (pv 1)) (da_cons (dq_var 2 (pv 2)) (da_nil)))))) (fun _ _ _ _ _ => dq_var 2 (pv 2))) (dq_lst (da_nil)) (nomark _))))⟩
abbrev N__law_digits : List Str := ["word", "sign"]
abbrev P__law_digits : List Str := ["word"]
theorem sc__law_digits : FnScope N__law_digits P__law_digits (defScope (top 46)) := ⟨rfl, rfl, rfl, by decide +kernel, rfl, by decide +kernel, by decide +kernel⟩
def q__law_digits : QS := qRet (qAndV (qChain kLe kLe (qC (.int 1)) (qCB kLen (qCons (qVar 0) (qNil))) (qC (.int 9))) (qAndV (q2 kEq (qLc (qIS (qVar 0)) (qgN 1) (qTest (q2 kNin (qVar 1) (qC (.str "0123456789")))) (qVar 1) [1]) (qLst (qNil))) (qOrV (q2 kNe (q2 ixq (qVar 0) (qC (.int 0))) (qC (.str "0"))) (q2 kEq (qCB kLen (qCons (qVar 0) (qNil))) (qC (.int 1))))))
theorem der__law_digits {P : Program} {w : World} {K : PySem.W.Frag} {mg : Str → Option Value} {base : Heap} (G : Gm K mg) {f : Addr} {cdv : Value} {A : Around} {outer : List Env} {s : Shared} {H : Hp} {E : XK} (hr : Room 0 (A.deeper (envOfC "_law_digits" (defScope (top 46)) s.heap.objs.size f cdv))) : ∃ t, DSs (cxOf CX0 P w K mg base N__law_digits "_law_digits" (defScope (top 46)) f cdv A outer s H E).nox (defBody (top 46)) t q__law_digits := ⟨_, dss_one (ds_ret (dq_and (dq_chain op_le o2_le op_le o2_le (dq_int) (dq_callB cr_len oa_len rfl G.b_len (by decide +kernel) (da_cons (dq_var 0 (pv 0)) (da_nil))) (dq_int)) (dq_and (dq_cmp (op_eqA hr.units) o2_eq (dq_lc (own := [("sign", 1)]) (tt := tTest (tOp (rNinA K) (tVar 1) (tC (.str "0123456789")))) (te := tVar 1) (g := gName 1) rfl sc__law_digits.nd (di_str (dq_var 0 (pv 0))) (blkOk_by (N := N__law_digits) (sc := defScope (top 46)) (own := [("sign", 1)]) (by decide +kernel)) (fun _ _ _ _ _ => dg_name 1 (pg_name (i := 1) sc__law_digits.nd rfl (by first | exact .inl rfl | exact .inr rfl))) (fun _ _ _ _ _ => dts_one (dt_cmp (op_ninA (units65 hr)) o2_nin (dq_var 1 (pv 1)) (dq_str) rfl)) (fun _ _ _ _ _ => dq_var 1 (pv 1))) (dq_lst (da_nil)) (nomark _)) (dq_one (dq_or (dq_cmp (op_neA hr.units) o2_ne (dq_ix (dq_var 0 (pv 0)) (dq_int)) (dq_str) (nomark _)) (dq_one (dq_cmp (op_eqA hr.units) o2_eq (dq_callB cr_len oa_len rfl G.b_len (by decide +kernel) (da_cons (dq_var 0 (pv 0)) (da_nil))) (dq_int) (nomark _))))))))⟩
abbrev N__law_number : List Str := ["word", "parts", "found", "top", "under", "part"]
abbrev P__law_number : List Str := ["word"]
theorem sc__law_number : FnScope N__law_number P__law_number (defScope (top 47)) := ⟨rfl, rfl, rfl, by decide +kernel, rfl, by decide +kernel, by decide +kernel⟩
def q__law_number : QS := qSeq (qAsg (qSplit (qIf (qTest (q2 kEq (qSl (qVar 0) (qNoPart) (qPart (qC (.int 1)))) (qC (.str "-")))) (qSl (qVar 0) (qPart (qC (.int 1))) (qNoPart)) (qVar 0)) (qC (.str "/"))) 1) (qSeq (qIfS (qOr (qTest (q2 kGt (qCB kLen (qCons (qVar 1) (qNil))) (qC (.int 2)))) (qOr (qTest (q2 kNe (qLc (qIL (qVar 1)) (qgN 5) (qNot (qTest (qCall d__law_digits (qCons (qVar 5) (qNil))))) (qVar 5) [5]) (qLst (qNil)))) (qAnd (qTest (q2 kEq (qCB kLen (qCons (qVar 1) (qNil))) (qC (.int 2)))) (qTest (q2 kEq (q2 ixq (qVar 1) (qC (.int 1))) (qC (.str "0"))))))) (qRet (qC .none)) (qNext)) (qSeq (qPar (qCB kInt (qCons (q2 ixq (qVar 1) (qC (.int 0))) (qNil))) (qIf (qTest (q2 kEq (qCB kLen (qCons (qVar 1) (qNil))) (qC (.int 2)))) (qCB kInt (qCons (q2 ixq (qVar 1) (qC (.int 1))) (qNil))) (qC (.int 1))) 3 4) (qSeq (qAsg (qCall d__law_lowest (qCons (qIf (qTest (q2 kEq (qSl (qVar 0) (qNoPart) (qPart (qC (.int 1)))) (qC (.str "-")))) (q2 kSub (qC (.int 0)) (qVar 3)) (qVar 3)) (qCons (qVar 4) (qNil)))) 2) (qRet (qIf (qTest (q2 kEq (qCall d__law_word (qCons (qVar 2) (qNil))) (qVar 0))) (qVar 2) (qC .none))))))
theorem der__law_number {P : Program} {w : World} {K : PySem.W.Frag} {mg : Str → Option Value} {base : Heap} (G : Gm K mg) (c__law_digits : Cal P w K mg base 1 "_law_digits" (toSp K d__law_digits) []) (c__law_lowest : Cal P w K mg base 1 "_law_lowest" (toSp K d__law_lowest) []) (c__law_word : Cal P w K mg base 1 "_law_word" (toSp K d__law_word) []) {f : Addr} {cdv : Value} {A : Around} {outer : List Env} {s : Shared} {H : Hp} {E : XK} (hr : Room 1 (A.deeper (envOfC "_law_number" (defScope (top 47)) s.heap.objs.size f cdv))) : ∃ t, DSs (cxOf CX0 P w K mg base N__law_number "_law_number" (defScope (top 47)) f cdv A outer s H E).nox (defBody (top 47)) t q__law_number := ⟨_, dss_cons (ds_set 1 sc__law_number.nd (dq_split (dq_if (dt_cmp (op_eqA hr.units) o2_eq (dq_slice (dq_var 0 (pv 0)) (do_none) (do_some (dq_int))) (dq_str) (nomark _)) (dq_slice (dq_var 0 (pv 0)) (do_some (dq_int)) (do_none)) (dq_var 0 (pv 0))) (dq_str))) (dss_cons (ds_if (DW.dt (dw_or (dt_cmp op_gt o2_gt (dq_callB cr_len oa_len rfl G.b_len (by decide +kernel) (da_cons (dq_var 1 (pv 1)) (da_nil))) (dq_int) (nomark _)) (dw_or (dt_cmp (op_neA hr.units) o2_ne (dq_lc (own := [("part", 5)]) (tt := tNot (tTest (tCall (toSp K d__law_digits) [] E0 (tCons (tVar 5) (tNil))))) (te := tVar 5) (g := gName 5) rfl sc__law_number.nd (di_list (dq_var 1 (pv 1))) (blkOk_by (N := N__law_number) (sc := defScope (top 47)) (own := [("part", 5)]) (by decide +kernel)) (fun _ _ _ _ _ => dg_name 5 (pg_name (i := 5) sc__law_number.nd rfl (by first | exact .inl rfl | exact .inr rfl))) (fun _ _ _ _ _ => dts_one (dt_not (dt_val (dq_c c__law_digits hr (by decide) rfl (da_cons (dq_var 5 (pv 5)) (da_nil)))))) (fun _ _ _ _ _ => dq_var 5 (pv 5))) (dq_lst (da_nil)) (nomark _)) (dw_or1 (DW.dt (dw_and (dt_cmp (op_eqA hr.units) o2_eq (dq_callB cr_len oa_len rfl G.b_len (by decide +kernel) (da_cons (dq_var 1 (pv 1)) (da_nil))) (dq_int) (nomark _)) (dw_and1 (dt_cmp (op_eqA hr.units) o2_eq (dq_ix (dq_var 1 (pv 1)) (dq_int)) (dq_str) (nomark _))))))))) (dss_one (ds_ret (dq_non))) (dss_nil)) (dss_cons (ds_set2 3 4 rfl sc__law_number.nd (dq_callTy cr_int oa_int rfl G.b_int (by decide +kernel) (da_cons (dq_ix (dq_var 1 (pv 1)) (dq_int)) (da_nil))) (dq_if (dt_cmp (op_eqA hr.units) o2_eq (dq_callB cr_len oa_len rfl G.b_len (by decide +kernel) (da_cons (dq_var 1 (pv 1)) (da_nil))) (dq_int) (nomark _)) (dq_callTy cr_int oa_int rfl G.b_int (by decide +kernel) (da_cons (dq_ix (dq_var 1 (pv 1)) (dq_int)) (da_nil))) (dq_int))) (dss_cons (ds_set 2 sc__law_number.nd (dq_c c__law_lowest hr (by decide) rfl (da_cons (dq_if (dt_cmp (op_eqA hr.units) o2_eq (dq_slice (dq_var 0 (pv 0)) (do_none) (do_some (dq_int))) (dq_str) (nomark _)) (dq_sub (dq_int) (dq_var 3 (pv 3))) (dq_var 3 (pv 3))) (da_cons (dq_var 4 (pv 4)) (da_nil))))) (dss_one (ds_ret (dq_if (dt_cmp (op_eqA hr.units) o2_eq (dq_c c__law_word hr (by decide) rfl (da_cons (dq_var 2 (pv 2)) (da_nil))) (dq_var 0 (pv 0)) (nomark _)) (dq_var 2 (pv 2)) (dq_non)))))))⟩
abbrev N__law_wrong : List Str := ["text", "lines", "many", "rows", "number", "line", "told", "row", "some", "word"]
abbrev P__law_wrong : List Str := ["text"]
theorem sc__law_wrong : FnScope N__law_wrong P__law_wrong (defScope (top 48)) := ⟨rfl, rfl, rfl, by decide +kernel, rfl, by decide +kernel, by decide +kernel⟩
def q__law_wrong : QS := qSeq (qPar3O (qSplit (qVar 0) (qC (.str "\n"))) (qC .none) (qLst (qNil)) 1 2 3) (qSeq (qFor (qIE (qCons (qSl (qVar 1) (qNoPart) (qPart (q1 kNeg (qC (.int 1))))) (qNil))) (qgT 2 (qgCons (qgN 4) (qgCons (qgN 5) (qgNil)))) (qIfS (qTest (q2 kEq (qVar 4) (qC (.int 0)))) (qSeq (qAsg (qLc (qR2 (qCons (qC (.int 1)) (qCons (qC (.int 4)) (qNil)))) (qgN 8) (qTest (q2 kEq (qVar 5) (q2 kAdd (qC (.str "dimensions ")) (qCB kStr (qCons (qVar 8) (qNil)))))) (qVar 8) [8]) 6) (qSeq (qIfS (qTest (q2 kEq (qVar 6) (qLst (qNil)))) (qRet (qC (.int 0))) (qNext)) (qAsg (q2 ixq (qVar 6) (qC (.int 0))) 2))) (qSeq (qAsg (qLc (qIL (qSplit (qVar 5) (qC (.str " ")))) (qgN 9) (qYes) (qCall d__law_number (qCons (qVar 9) (qNil))) [9]) 7) (qSeq (qIfS (qLendT (qOr (qTest (q2 kIn (qC .none) (qVar 7))) (qNot (qTest (qCall d__law_can_put (qCons (qTup (qCons (qC (.str "planes")) (qCons (qVar 2) (qCons (qVar 3) (qNil))))) (qCons (qVar 7) (qNil)))))))) (qRet (qVar 4)) (qNext)) (qApN 3 (qVar 7)))))) (qRet (qIf (qLendT (qAnd (qTest (q2 kEq (q2 ixq (qVar 1) (q1 kNeg (qC (.int 1)))) (qC (.str "")))) (qTest (q2 kNe (qVar 3) (qLst (qNil)))))) (qC .none) (q2 kSub (qCB kLen (qCons (qVar 1) (qNil))) (qC (.int 1))))))
theorem der__law_wrong {P : Program} {w : World} {K : PySem.W.Frag} {mg : Str → Option Value} {base : Heap} (G : Gm K mg) (c__law_number : Cal P w K mg base 2 "_law_number" (toSp K d__law_number) []) (c__law_can_put : Cal P w K mg base 4 "_law_can_put" (toSp K d__law_can_put) []) {f : Addr} {cdv : Value} {A : Around} {outer : List Env} {s : Shared} {H : Hp} {E : XK} (hr : Room 4 (A.deeper (envOfC "_law_wrong" (defScope (top 48)) s.heap.objs.size f cdv))) : ∃ t, DSs (cxOf CX0 P w K mg base N__law_wrong "_law_wrong" (defScope (top 48)) f cdv A outer s H E).nox (defBody (top 48)) t q__law_wrong := ⟨_, dss_cons (ds_set3O 1 2 3 rfl sc__law_wrong.nd (dq_split (dq_var 0 (pv 0)) (dq_str)) (dq_non) (dq_lst (da_nil))) (dss_cons (ds_for PassesOwn.never rfl (di_enum rfl G.b_enumerate (da_cons (dq_slice (dq_var 1 (pv 1)) (do_none) (do_some (dq_neg (dq_int)))) (da_nil))) (dg_tup rfl (dgs_cons (dg_name 4 (pg_name (i := 4) sc__law_wrong.nd rfl (by first | exact .inl rfl | exact .inr rfl))) (dgs_cons (dg_name 5 (pg_name (i := 5) sc__law_wrong.nd rfl (by first | exact .inl rfl | exact .inr rfl))) (dgs_nil)))) (dss_one (ds_if (dt_cmp (op_eqA hr.units) o2_eq (dq_var 4 (pv 4)) (dq_int) (nomark _)) (dss_cons (ds_asgLc (i := 6) (own := [("some", 8)]) (tt := tTest (tOp (rEqA K) (tVar 5) (tOp (rAddA K) (tC (.str "dimensions ")) (tCB rStrI (tCons (tVar 8) (tNil)))))) (te := tVar 8) (g := gName 8) rfl sc__law_wrong.nd rfl rfl (sw_true rfl rfl rfl (by decide +kernel)) (di_range2 rfl G.b_range (da_cons (dq_int) (da_cons (dq_int) (da_nil)))) (blkOk_by (N := N__law_wrong) (sc := defScope (top 48)) (own := [("some", 8)]) (by decide +kernel)) (fun _ _ _ _ _ => dg_name 8 (pg_name (i := 8) sc__law_wrong.nd rfl (by first | exact .inl rfl | exact .inr rfl))) (fun _ _ _ _ _ => dts_one (dt_cmp (op_eqA hr.units) o2_eq (dq_var 5 (pv 5)) (dq_add (dq_str) (dq_callTy cr_str oa_str rfl G.b_str (by decide +kernel) (da_cons (dq_var 8 (pv 8)) (da_nil)))) (nomark _))) (fun _ _ _ _ _ => dq_var 8 (pv 8))) (dss_cons (ds_if (dt_cmp (op_eqA hr.units) o2_eq (dq_var 6 (pv 6)) (dq_lst (da_nil)) (nomark _)) (dss_one (ds_ret (dq_int))) (dss_nil)) (dss_one (ds_set 2 sc__law_wrong.nd (dq_ix (dq_var 6 (pv 6)) (dq_int)))))) (dss_cons (ds_asgLc (i := 7) (own := [("word", 9)]) (tt := tYes) (te := tCall (toSp K d__law_number) [] E0 (tCons (tVar 9) (tNil))) (g := gName 9) rfl sc__law_wrong.nd rfl rfl (sw_true rfl rfl rfl (by decide +kernel)) (di_list (dq_split (dq_var 5 (pv 5)) (dq_str))) (blkOk_by (N := N__law_wrong) (sc := defScope (top 48)) (own := [("word", 9)]) (by decide +kernel)) (fun _ _ _ _ _ => dg_name 9 (pg_name (i := 9) sc__law_wrong.nd rfl (by first | exact .inl rfl | exact .inr rfl))) (fun _ _ _ _ _ => dts_nil) (fun _ _ _ _ _ => dq_c c__law_number hr (by decide) rfl (da_cons (dq_var 9 (pv 9)) (da_nil)))) (dss_cons (ds_if (dt_lend (DW.dt (dw_or (dt_cmp (op_inA (units65 hr)) o2_in (dq_non) (dq_var 7 (pv 7)) rfl) (dw_or1 (dt_not (dt_val (dq_c c__law_can_put hr (by decide) rfl (da_cons (dq_tup (da_cons (dq_str) (da_cons (dq_var 2 (pv 2)) (da_cons (dq_var 3 (pv 3)) (da_nil))))) (da_cons (dq_var 7 (pv 7)) (da_nil)))))))))) (dss_one (ds_ret (dq_var 4 (pv 4)))) (dss_nil)) (dss_one (ds_apN 3 (pv 3) (dq_var 7 (pv 7))))))))) (dss_one (ds_ret (dq_if (dt_lend (DW.dt (dw_and (dt_cmp (op_eqA hr.units) o2_eq (dq_ix (dq_var 1 (pv 1)) (dq_neg (dq_int))) (dq_str) (nomark _)) (dw_and1 (dt_cmp (op_neA hr.units) o2_ne (dq_var 3 (pv 3)) (dq_lst (da_nil)) (nomark _)))))) (dq_non) (dq_sub (dq_callB cr_len oa_len rfl G.b_len (by decide +kernel) (da_cons (dq_var 1 (pv 1)) (da_nil))) (dq_int))))))⟩
abbrev N__law_texts : List Str := ["generator", "planes", "found", "lists", "double", "some", "turn", "text", "lines", "at", "spot", "cut", "here", "one", "line"]
abbrev P__law_texts : List Str := ["generator", "planes"]
theorem sc__law_texts : FnScope N__law_texts P__law_texts (defScope (top 49)) := ⟨rfl, rfl, rfl, by decide +kernel, rfl, by decide +kernel, by decide +kernel⟩
def q__law_texts : QS := qSeq (qPar (qCall d__law_text (qCons (qVar 1) (qNil))) (qSl (qSplit (qCall d__law_text (qCons (qVar 1) (qNil))) (qC (.str "\n"))) (qNoPart) (qPart (q1 kNeg (qC (.int 1))))) 7 8) (qSeq (qPar3 (qCallO 0 d__law_random (qCons (qCB kLen (qCons (qVar 8) (qNil))) (qNil))) (qCallO 0 d__law_random (qCons (qCB kLen (qCons (qVar 8) (qNil))) (qNil))) (qCallO 0 d__law_random (qCons (q2 kAdd (qCB kLen (qCons (qVar 7) (qNil))) (qC (.int 1))) (qNil))) 9 10 11) (qSeq (qAsgO (qLst (qCons (qVar 7) (qCons (q2 kAdd (qVar 7) (qC (.str "\n"))) (qCons (qSl (qVar 7) (qNoPart) (qPart (q1 kNeg (qC (.int 1))))) (qCons (qC (.str "")) (qCons (qC (.str "\n")) (qCons (q2 kAdd (qC (.str " ")) (qVar 7)) (qCons (q2 kAdd (qVar 7) (qVar 7)) (qCons (qSl (qVar 7) (qNoPart) (qPart (qVar 11))) (qCons (qSl (qVar 7) (qPart (qVar 11)) (qNoPart)) (qNil))))))))))) 2) (qSeq (qAsg (qLst (qCons (q2 kAdd (qSl (qVar 8) (qNoPart) (qPart (qVar 9))) (qSl (qVar 8) (qPart (q2 kAdd (qVar 9) (qC (.int 1)))) (qNoPart))) (qCons (q2 kAdd (q2 kAdd (qSl (qVar 8) (qNoPart) (qPart (qVar 9))) (qSl (qVar 8) (qPart (qVar 9)) (qPart (q2 kAdd (qVar 9) (qC (.int 1)))))) (qSl (qVar 8) (qPart (qVar 9)) (qNoPart))) (qCons (qRevL (qVar 8)) (qCons (q2 kAdd (q2 kAdd (qSl (qVar 8) (qNoPart) (qPart (qVar 9))) (qLst (qCons (q2 ixq (qVar 8) (qVar 10)) (qNil)))) (qSl (qVar 8) (qPart (q2 kAdd (qVar 9) (qC (.int 1)))) (qNoPart))) (qNil)))))) 3) (qSeq (qAsg (qCall d__law_words (qCons (qLc (qIL (q2 ixq (q2 ixq (qVar 1) (qC (.int 2))) (qC (.int 0)))) (qgN 13) (qYes) (qCall d__law_times (qCons (qVar 13) (qCons (qTup (qCons (q2 kSub (qC (.int 0)) (qC (.int 3))) (qCons (qC (.int 2)) (qNil)))) (qNil)))) [13]) (qNil))) 4) (qSeq (qFor (qIL (q2 kAdd (qVar 3) (qLst (qCons (q2 kAdd (qVar 8) (qLst (qCons (qVar 4) (qNil)))) (qCons (q2 kAdd (qVar 8) (qLst (qCons (q2 kAdd (q2 kMul (qC (.str "0 ")) (q2 ixq (qVar 1) (qC (.int 1)))) (qC (.str "1"))) (qNil)))) (qCons (q2 kAdd (qVar 8) (qLst (qCons (q2 kAdd (q2 kMul (qC (.str "1 ")) (q2 ixq (qVar 1) (qC (.int 1)))) (qC (.str "900"))) (qNil)))) (qCons (q2 kAdd (qVar 8) (qLst (qCons (q2 kAdd (q2 kMul (qC (.str "1 ")) (q2 ixq (qVar 1) (qC (.int 1)))) (qC (.str "2/4"))) (qNil)))) (qNil)))))))) (qgN 5) (qApN 2 (qJoin (qC (.str "")) (qLc (qIL (qVar 5)) (qgN 14) (qYes) (q2 kAdd (qVar 14) (qC (.str "\n"))) [14])))) (qSeq (qFor (qR1 (qCons (qC (.int 5)) (qNil))) (qgN 6) (qSeq (qAsg (qCallO 0 d__law_random (qCons (qCB kLen (qCons (qVar 7) (qNil))) (qNil))) 12) (qApN 2 (q2 kAdd (q2 kAdd (qSl (qVar 7) (qNoPart) (qPart (qVar 12))) (qCallO 0 d__law_pick (qCons (qLst (qCons (qC (.str "0")) (qCons (qC (.str "1")) (qCons (qC (.str "2")) (qCons (qC (.str "/")) (qCons (qC (.str " ")) (qCons (qC (.str "\n")) (qCons (qC (.str "-")) (qNil))))))))) (qNil)))) (qSl (qVar 7) (qPart (q2 kAdd (qVar 12) (qCallO 0 d__law_random (qCons (qC (.int 2)) (qNil))))) (qNoPart)))))) (qRetO 2)))))))
theorem der__law_texts {P : Program} {w : World} {K : PySem.W.Frag} {mg : Str → Option Value} {base : Heap} (G : Gm K mg) (c__law_text : Cal P w K mg base 3 "_law_text" (toSp K d__law_text) []) (c__law_random : Cal P w K mg base 2 "_law_random" (toSp K d__law_random) []) (c__law_words : Cal P w K mg base 2 "_law_words" (toSp K d__law_words) []) (c__law_times : Cal P w K mg base 2 "_law_times" (toSp K d__law_times) []) (c__law_pick : Cal P w K mg base 3 "_law_pick" (toSp K d__law_pick) []) {f : Addr} {cdv : Value} {A : Around} {outer : List Env} {s : Shared} {H : Hp} {E : XK} (hr : Room 3 (A.deeper (envOfC "_law_texts" (defScope (top 49)) s.heap.objs.size f cdv))) : ∃ t, DSs (cxOf CX0 P w K mg base N__law_texts "_law_texts" (defScope (top 49)) f cdv A outer s H E).nox (defBody (top 49)) t q__law_texts := ⟨_, dss_cons (ds_set2 7 8 rfl sc__law_texts.nd (dq_c c__law_text hr (by decide) rfl (da_cons (dq_var 1 (pv 1)) (da_nil))) (dq_slice (dq_split (dq_c c__law_text hr (by decide) rfl (da_cons (dq_var 1 (pv 1)) (da_nil))) (dq_str)) (do_none) (do_some (dq_neg (dq_int))))) (dss_cons (ds_set3 9 10 11 rfl sc__law_texts.nd (dq_cO 0 c__law_random hr (by decide) rfl (pv 0) (da_cons (dq_callB cr_len oa_len rfl G.b_len (by decide +kernel) (da_cons (dq_var 8 (pv 8)) (da_nil))) (da_nil))) (dq_cO 0 c__law_random hr (by decide) rfl (pv 0) (da_cons (dq_callB cr_len oa_len rfl G.b_len (by decide +kernel) (da_cons (dq_var 8 (pv 8)) (da_nil))) (da_nil))) (dq_cO 0 c__law_random hr (by decide) rfl (pv 0) (da_cons (dq_add (dq_callB cr_len oa_len rfl G.b_len (by decide +kernel) (da_cons (dq_var 7 (pv 7)) (da_nil))) (dq_int)) (da_nil)))) (dss_cons (ds_setO 2 sc__law_texts.nd (dq_lst (da_cons (dq_var 7 (pv 7)) (da_cons (dq_add (dq_var 7 (pv 7)) (dq_str)) (da_cons (dq_slice (dq_var 7 (pv 7)) (do_none) (do_some (dq_neg (dq_int)))) (da_cons (dq_str) (da_cons (dq_str) (da_cons (dq_add (dq_str) (dq_var 7 (pv 7))) (da_cons (dq_add (dq_var 7 (pv 7)) (dq_var 7 (pv 7))) (da_cons (dq_slice (dq_var 7 (pv 7)) (do_none) (do_some (dq_var 11 (pv 11)))) (da_cons (dq_slice (dq_var 7 (pv 7)) (do_some (dq_var 11 (pv 11))) (do_none)) (da_nil)))))))))))) (dss_cons (ds_set 3 sc__law_texts.nd (dq_lst (da_cons (dq_add (dq_slice (dq_var 8 (pv 8)) (do_none) (do_some (dq_var 9 (pv 9)))) (dq_slice (dq_var 8 (pv 8)) (do_some (dq_add (dq_var 9 (pv 9)) (dq_int))) (do_none))) (da_cons (dq_add (dq_add (dq_slice (dq_var 8 (pv 8)) (do_none) (do_some (dq_var 9 (pv 9)))) (dq_slice (dq_var 8 (pv 8)) (do_some (dq_var 9 (pv 9))) (do_some (dq_add (dq_var 9 (pv 9)) (dq_int))))) (dq_slice (dq_var 8 (pv 8)) (do_some (dq_var 9 (pv 9))) (do_none))) (da_cons (dq_revL (dq_var 8 (pv 8))) (da_cons (dq_add (dq_add (dq_slice (dq_var 8 (pv 8)) (do_none) (do_some (dq_var 9 (pv 9)))) (dq_lst (da_cons (dq_ix (dq_var 8 (pv 8)) (dq_var 10 (pv 10))) (da_nil)))) (dq_slice (dq_var 8 (pv 8)) (do_some (dq_add (dq_var 9 (pv 9)) (dq_int))) (do_none))) (da_nil))))))) (dss_cons (ds_set 4 sc__law_texts.nd (dq_c c__law_words hr (by decide) rfl (da_cons (dq_lc (own := [("one", 13)]) (tt := tYes) (te := tCall (toSp K d__law_times) [] E0 (tCons (tVar 13) (tCons (tTup (tCons (tOp rSubI (tC (.int 0)) (tC (.int 3))) (tCons (tC (.int 2)) (tNil)))) (tNil)))) (g := gName 13) rfl sc__law_texts.nd (di_list (dq_ix (dq_ix (dq_var 1 (pv 1)) (dq_int)) (dq_int))) (blkOk_by (N := N__law_texts) (sc := defScope (top 49)) (own := [("one", 13)]) (by decide +kernel)) (fun _ _ _ _ _ => dg_name 13 (pg_name (i := 13) sc__law_texts.nd rfl (by first | exact .inl rfl | exact .inr rfl))) (fun _ _ _ _ _ => dts_nil) (fun _ _ _ _ _ => dq_c c__law_times hr (by decide) rfl (da_cons (dq_var 13 (pv 13)) (da_cons (dq_tup (da_cons (dq_sub (dq_int) (dq_int)) (da_cons (dq_int) (da_nil)))) (da_nil))))) (da_nil)))) (dss_cons (ds_for PassesOwn.never rfl (di_list (dq_add (dq_var 3 (pv 3)) (dq_lst (da_cons (dq_add (dq_var 8 (pv 8)) (dq_lst (da_cons (dq_var 4 (pv 4)) (da_nil)))) (da_cons (dq_add (dq_var 8 (pv 8)) (dq_lst (da_cons (dq_add (dq_mulA (dq_str) (dq_ix (dq_var 1 (pv 1)) (dq_int))) (dq_str)) (da_nil)))) (da_cons (dq_add (dq_var 8 (pv 8)) (dq_lst (da_cons (dq_add (dq_mulA (dq_str) (dq_ix (dq_var 1 (pv 1)) (dq_int))) (dq_str)) (da_nil)))) (da_cons (dq_add (dq_var 8 (pv 8)) (dq_lst (da_cons (dq_add (dq_mulA (dq_str) (dq_ix (dq_var 1 (pv 1)) (dq_int))) (dq_str)) (da_nil)))) (da_nil)))))))) (dg_name 5 (pg_name (i := 5) sc__law_texts.nd rfl (by first | exact .inl rfl | exact .inr rfl))) (dss_one (ds_apN 2 (pv 2) (dq_join (dq_str) (dq_lc (own := [("line", 14)]) (tt := tYes) (te := tOp (rAddA K) (tVar 14) (tC (.str "\n"))) (g := gName 14) rfl sc__law_texts.nd (di_list (dq_var 5 (pv 5))) (blkOk_by (N := N__law_texts) (sc := defScope (top 49)) (own := [("line", 14)]) (by decide +kernel)) (fun _ _ _ _ _ => dg_name 14 (pg_name (i := 14) sc__law_texts.nd rfl (by first | exact .inl rfl | exact .inr rfl))) (fun _ _ _ _ _ => dts_nil) (fun _ _ _ _ _ => dq_add (dq_var 14 (pv 14)) (dq_str))))))) (dss_cons (ds_for PassesOwn.never rfl (di_range1 rfl G.b_range (da_cons (dq_int) (da_nil))) (dg_name 6 (pg_name (i := 6) sc__law_texts.nd rfl (by first | exact .inl rfl | exact .inr rfl))) (dss_cons (ds_set 12 sc__law_texts.nd (dq_cO 0 c__law_random hr (by decide) rfl (pv 0) (da_cons (dq_callB cr_len oa_len rfl G.b_len (by decide +kernel) (da_cons (dq_var 7 (pv 7)) (da_nil))) (da_nil)))) (dss_one (ds_apN 2 (pv 2) (dq_add (dq_add (dq_slice (dq_var 7 (pv 7)) (do_none) (do_some (dq_var 12 (pv 12)))) (dq_cO 0 c__law_pick hr (by decide) rfl (pv 0) (da_cons (dq_lst (da_cons (dq_str) (da_cons (dq_str) (da_cons (dq_str) (da_cons (dq_str) (da_cons (dq_str) (da_cons (dq_str) (da_cons (dq_str) (da_nil))))))))) (da_nil)))) (dq_slice (dq_var 7 (pv 7)) (do_some (dq_add (dq_var 12 (pv 12)) (dq_cO 0 c__law_random hr (by decide) rfl (pv 0) (da_cons (dq_int) (da_nil))))) (do_none))))))) (dss_one (ds_retO 2 (pv 2)))))))))⟩
end K90
set_option Elab.async false
set_option linter.all false
set_option maxRecDepth 100000
set_option autoImplicit false
namespace K90
open PySem PySem.Spec PyProof.Rows L2 DL
theorem p_is_whole (as R) (h : d_is_whole as R) : as.length = 1 ∧ q_is_whole { nx := fun ρ => R (.dt .none) (pwOf ρ), rt := fun r ρ => R r (pwOf ρ) } (as ++ List.replicate (N_is_whole.length - 1) .un) := by
  obtain ⟨v, rfl, h⟩ := h
  refine ⟨rfl, ?_⟩
  unfold q_is_whole
  simp [qVar, qC, q2, q1, qTest, qChain, qAnd, qOr, qNot, qAndV, qOrV, qNotV, qIf, qNil, qCons, qTup, qLst, qCB, qNext, qSeq, qRet, qRetN, qRetO, qIfS, qAsg, qAsgO, qPar, qParO, qPar3, qPar3O, qFrz, qApN, qApp, qStN, qIxO, qLend, qLendT, qNoPart, qPart, qSl, qRevL, qIsi, qSplit, qJoin, qBits, qIL, qIT, qR1, qR2, qIS, qIE, qgN, qgNil, qgCons, qgT, qFor, qLc, qYes, qCall, qCallO, kAdd, kSub, kI0, kI, kMul, kFdiv, kMod, kPow, kLt, kLe, kGt, kGe, kB0, kEq, kNe, kIsN, kNotN, kIn, kNin, kLen, kAbs, kMax2, kInt, kStr, kSum, kAll_, kAny_, kNeg, isN, SD.dat, SD.toDt, okSlot, okP, DL.ownOf, setOwn, flatD, ixq_l, ixq_t, ixq_s, slq_l, slq_s, eqq_ii, eqq_ss, eqq_ll, eqq_tt, inn_l, inn_s, wipeR, freeV]
  have h' := h (pwOf [SD.dt v])
  cases v <;> simp [tyD, isW] at h' ⊢ <;> first | exact .inl ⟨by decide, h'⟩ | exact .inr ⟨by decide, .inl ⟨by decide, h'⟩⟩ | exact .inr ⟨by decide, .inr ⟨by decide, h'⟩⟩
theorem gcd_step {x y : Int} (hx : 0 ≤ x) (hy : 0 < y) : Int.gcd y (x % y) = Int.gcd x y := by
  obtain ⟨n, rfl⟩ := Int.eq_ofNat_of_zero_le hx
  obtain ⟨m, rfl⟩ := Int.eq_ofNat_of_zero_le (Int.le_of_lt hy)
  show Nat.gcd m (n % m) = Nat.gcd n m
  rw [Nat.gcd_comm m, ← Nat.gcd_rec, Nat.gcd_comm]
theorem p_common_divisor (as R) (h : d_common_divisor as R) : as.length = 2 ∧ q_common_divisor { nx := fun ρ => R (.dt .none) (pwOf ρ), rt := fun r ρ => R r (pwOf ρ) } (as ++ List.replicate (N_common_divisor.length - 2) .un) := by
  obtain ⟨a, b, rfl, h⟩ := h
  refine ⟨rfl, ?_⟩
  unfold q_common_divisor
  simp [qVar, qC, q2, q1, qTest, qChain, qAnd, qOr, qNot, qAndV, qOrV, qNotV, qIf, qNil, qCons, qTup, qLst, qCB, qNext, qSeq, qRet, qRetN, qRetO, qIfS, qAsg, qAsgO, qPar, qParO, qPar3, qPar3O, qFrz, qApN, qApp, qStN, qIxO, qLend, qLendT, qNoPart, qPart, qSl, qRevL, qIsi, qSplit, qJoin, qBits, qIL, qIT, qR1, qR2, qIS, qIE, qgN, qgNil, qgCons, qgT, qFor, qLc, qYes, qCall, qCallO, kAdd, kSub, kI0, kI, kMul, kFdiv, kMod, kPow, kLt, kLe, kGt, kGe, kB0, kEq, kNe, kIsN, kNotN, kIn, kNin, kLen, kAbs, kMax2, kInt, kStr, kSum, kAll_, kAny_, kNeg, isN, SD.dat, SD.toDt, okSlot, okP, DL.ownOf, setOwn, flatD, ixq_l, ixq_t, ixq_s, slq_l, slq_s, eqq_ii, eqq_ss, eqq_ll, eqq_tt, inn_l, inn_s, wipeR, freeV]
  refine ⟨fun ρ => ∃ x y : Int, ρ = [.dt (.int x), .dt (.int y)] ∧ 0 ≤ x ∧ 0 ≤ y ∧ Int.gcd x y = Int.gcd a b, fun ρ => match ρ with | [_, .dt (.int y)] => y.toNat | _ => 0, ⟨_, _, rfl, by split <;> omega, by split <;> omega, ?_⟩, ?_⟩
  · split <;> split <;> simp
  · rintro _ ⟨x, y, rfl, hx, hy, hg⟩
    simp [qVar, qC, q2, q1, qTest, qChain, qAnd, qOr, qNot, qAndV, qOrV, qNotV, qIf, qNil, qCons, qTup, qLst, qCB, qNext, qSeq, qRet, qRetN, qRetO, qIfS, qAsg, qAsgO, qPar, qParO, qPar3, qPar3O, qFrz, qApN, qApp, qStN, qIxO, qLend, qLendT, qNoPart, qPart, qSl, qRevL, qIsi, qSplit, qJoin, qBits, qIL, qIT, qR1, qR2, qIS, qIE, qgN, qgNil, qgCons, qgT, qFor, qLc, qYes, qCall, qCallO, kAdd, kSub, kI0, kI, kMul, kFdiv, kMod, kPow, kLt, kLe, kGt, kGe, kB0, kEq, kNe, kIsN, kNotN, kIn, kNin, kLen, kAbs, kMax2, kInt, kStr, kSum, kAll_, kAny_, kNeg, isN, SD.dat, SD.toDt, okSlot, okP, DL.ownOf, setOwn, flatD, ixq_l, ixq_t, ixq_s, slq_l, slq_s, eqq_ii, eqq_ss, eqq_ll, eqq_tt, inn_l, inn_s, wipeR, freeV]
    by_cases h0 : 0 < y
    · simp [h0]
      have h1 := Int.emod_nonneg x (show y ≠ 0 by omega)
      have h2 := Int.emod_lt_of_pos x h0
      exact ⟨⟨_, _, ⟨rfl, rfl⟩, by omega, h1, by rw [gcd_step hx h0]; exact hg⟩, by omega⟩
    · have e : y = 0 := by omega
      subst e
      simp
      have h' := h (pwOf [SD.dt (.int x), SD.dt (.int 0)])
      have e2 : x = (Int.gcd a b : Nat) := by
        rw [← hg, Int.gcd_zero_right]
        omega
      rw [e2]
      rw [← e2] at h' ⊢
      exact h'
theorem gcd_pos' {a b : Int} (h : 0 < b) : 0 < Int.gcd a b := Int.gcd_pos_of_ne_zero_right a (by omega)
theorem gcd_le' {a b : Int} (h : 0 < b) : (Int.gcd a b : Int) ≤ b := Int.le_of_dvd h (Int.gcd_dvd_right ..)
theorem p_lowest (as R) (h : d_lowest as R) : as.length = 2 ∧ q_lowest { nx := fun ρ => R (.dt .none) (pwOf ρ), rt := fun r ρ => R r (pwOf ρ) } (as ++ List.replicate (N_lowest.length - 2) .un) := by
  obtain ⟨a, b, rfl, hb, hza, hz, h⟩ := h
  refine ⟨rfl, ?_⟩
  unfold q_lowest
  have hg := gcd_pos' (a := a) hb
  have hl := gcd_le' (a := a) hb
  simp [qVar, qC, q2, q1, qTest, qChain, qAnd, qOr, qNot, qAndV, qOrV, qNotV, qIf, qNil, qCons, qTup, qLst, qCB, qNext, qSeq, qRet, qRetN, qRetO, qIfS, qAsg, qAsgO, qPar, qParO, qPar3, qPar3O, qFrz, qApN, qApp, qStN, qIxO, qLend, qLendT, qNoPart, qPart, qSl, qRevL, qIsi, qSplit, qJoin, qBits, qIL, qIT, qR1, qR2, qIS, qIE, qgN, qgNil, qgCons, qgT, qFor, qLc, qYes, qCall, qCallO, kAdd, kSub, kI0, kI, kMul, kFdiv, kMod, kPow, kLt, kLe, kGt, kGe, kB0, kEq, kNe, kIsN, kNotN, kIn, kNin, kLen, kAbs, kMax2, kInt, kStr, kSum, kAll_, kAny_, kNeg, isN, SD.dat, SD.toDt, okSlot, okP, DL.ownOf, setOwn, flatD, ixq_l, ixq_t, ixq_s, slq_l, slq_s, eqq_ii, eqq_ss, eqq_ll, eqq_tt, inn_l, inn_s, wipeR, freeV, show ¬ b < 0 by omega]
  refine ⟨a, b, rfl, fun ys => ?_⟩
  simp [qVar, qC, q2, q1, qTest, qChain, qAnd, qOr, qNot, qAndV, qOrV, qNotV, qIf, qNil, qCons, qTup, qLst, qCB, qNext, qSeq, qRet, qRetN, qRetO, qIfS, qAsg, qAsgO, qPar, qParO, qPar3, qPar3O, qFrz, qApN, qApp, qStN, qIxO, qLend, qLendT, qNoPart, qPart, qSl, qRevL, qIsi, qSplit, qJoin, qBits, qIL, qIT, qR1, qR2, qIS, qIE, qgN, qgNil, qgCons, qgT, qFor, qLc, qYes, qCall, qCallO, kAdd, kSub, kI0, kI, kMul, kFdiv, kMod, kPow, kLt, kLe, kGt, kGe, kB0, kEq, kNe, kIsN, kNotN, kIn, kNin, kLen, kAbs, kMax2, kInt, kStr, kSum, kAll_, kAny_, kNeg, isN, SD.dat, SD.toDt, okSlot, okP, DL.ownOf, setOwn, flatD, ixq_l, ixq_t, ixq_s, slq_l, slq_s, eqq_ii, eqq_ss, eqq_ll, eqq_tt, inn_l, inn_s, wipeR, freeV, cdiv (i := a) (j := (Int.gcd a b : Nat)) (by omega) (by omega), cdiv (i := b) (j := (Int.gcd a b : Nat)) (by omega) (by omega)]
  exact ⟨by decide, h _⟩
theorem p_is_fraction (as R) (h : d_is_fraction as R) : as.length = 1 ∧ q_is_fraction { nx := fun ρ => R (.dt .none) (pwOf ρ), rt := fun r ρ => R r (pwOf ρ) } (as ++ List.replicate (N_is_fraction.length - 1) .un) := by
  obtain ⟨f, rfl, hza, hz, h⟩ := h
  refine ⟨rfl, ?_⟩
  unfold q_is_fraction frD
  simp [qVar, qC, q2, q1, qTest, qChain, qAnd, qOr, qNot, qAndV, qOrV, qNotV, qIf, qNil, qCons, qTup, qLst, qCB, qNext, qSeq, qRet, qRetN, qRetO, qIfS, qAsg, qAsgO, qPar, qParO, qPar3, qPar3O, qFrz, qApN, qApp, qStN, qIxO, qLend, qLendT, qNoPart, qPart, qSl, qRevL, qIsi, qSplit, qJoin, qBits, qIL, qIT, qR1, qR2, qIS, qIE, qgN, qgNil, qgCons, qgT, qFor, qLc, qYes, qCall, qCallO, kAdd, kSub, kI0, kI, kMul, kFdiv, kMod, kPow, kLt, kLe, kGt, kGe, kB0, kEq, kNe, kIsN, kNotN, kIn, kNin, kLen, kAbs, kMax2, kInt, kStr, kSum, kAll_, kAny_, kNeg, isN, SD.dat, SD.toDt, okSlot, okP, DL.ownOf, setOwn, flatD, ixq_l, ixq_t, ixq_s, slq_l, slq_s, eqq_ii, eqq_ss, eqq_ll, eqq_tt, inn_l, inn_s, wipeR, freeV, tyD]
  have k1 : kitB "tuple" "tuple" = some true := by decide
  have a0 : atI [PyData.int f.1, PyData.int f.2] 0 = some (.int f.1) := rfl
  have a1 : atI [PyData.int f.1, PyData.int f.2] 1 = some (.int f.2) := rfl
  simp [k1, a0, a1]
  refine ⟨_, rfl, fun ys => ?_⟩
  simp [isW]
  refine ⟨_, rfl, fun ys => ?_⟩
  simp [isW]
  by_cases h0 : 0 < f.2
  · simp [h0]
    refine ⟨_, _, rfl, fun ys => ?_⟩
    simp [qVar, qC, q2, q1, qTest, qChain, qAnd, qOr, qNot, qAndV, qOrV, qNotV, qIf, qNil, qCons, qTup, qLst, qCB, qNext, qSeq, qRet, qRetN, qRetO, qIfS, qAsg, qAsgO, qPar, qParO, qPar3, qPar3O, qFrz, qApN, qApp, qStN, qIxO, qLend, qLendT, qNoPart, qPart, qSl, qRevL, qIsi, qSplit, qJoin, qBits, qIL, qIT, qR1, qR2, qIS, qIE, qgN, qgNil, qgCons, qgT, qFor, qLc, qYes, qCall, qCallO, kAdd, kSub, kI0, kI, kMul, kFdiv, kMod, kPow, kLt, kLe, kGt, kGe, kB0, kEq, kNe, kIsN, kNotN, kIn, kNin, kLen, kAbs, kMax2, kInt, kStr, kSum, kAll_, kAny_, kNeg, isN, SD.dat, SD.toDt, okSlot, okP, DL.ownOf, setOwn, flatD, ixq_l, ixq_t, ixq_s, slq_l, slq_s, eqq_ii, eqq_ss, eqq_ll, eqq_tt, inn_l, inn_s, wipeR, freeV]
    refine h.at ?_
    unfold copr
    simp [h0]
    exact decide_eq_decide.mpr (by omega)
  · simp [h0]
    exact h.at (by simp [h0])
theorem p_are_fractions (as R) (h : d_are_fractions as R) : as.length = 2 ∧ q_are_fractions { nx := fun ρ => R (.dt .none) (pwOf ρ), rt := fun r ρ => R r (pwOf ρ) } (as ++ List.replicate (N_are_fractions.length - 2) .un) := by
  obtain ⟨r, many, rfl, hz, hb, h⟩ := h
  refine ⟨rfl, ?_⟩
  unfold q_are_fractions rowD
  have k1 : kitB "list" "list" = some true := by decide
  simp [qVar, qC, q2, q1, qTest, qChain, qAnd, qOr, qNot, qAndV, qOrV, qNotV, qIf, qNil, qCons, qTup, qLst, qCB, qNext, qSeq, qRet, qRetN, qRetO, qIfS, qAsg, qAsgO, qPar, qParO, qPar3, qPar3O, qFrz, qApN, qApp, qStN, qIxO, qLend, qLendT, qNoPart, qPart, qSl, qRevL, qIsi, qSplit, qJoin, qBits, qIL, qIT, qR1, qR2, qIS, qIE, qgN, qgNil, qgCons, qgT, qFor, qLc, qYes, qCall, qCallO, kAdd, kSub, kI0, kI, kMul, kFdiv, kMod, kPow, kLt, kLe, kGt, kGe, kB0, kEq, kNe, kIsN, kNotN, kIn, kNin, kLen, kAbs, kMax2, kInt, kStr, kSum, kAll_, kAny_, kNeg, isN, SD.dat, SD.toDt, okSlot, okP, DL.ownOf, setOwn, flatD, ixq_l, ixq_t, ixq_s, slq_l, slq_s, eqq_ii, eqq_ss, eqq_ll, eqq_tt, inn_l, inn_s, wipeR, freeV, tyD, k1]
  by_cases hm : (r.length : Int) = many
  · simp [hm]
    refine lc_map rfl (by simpa using hz) rfl (fun d => match d with | .tuple [.int a, .int b] => .bool (decide (0 < b) && copr (a, b)) | _ => .none) ?_ ?_
    · intro d hd Y hY
      obtain ⟨f, hf, rfl⟩ := List.mem_map.mp hd
      simp [qVar, qC, q2, q1, qTest, qChain, qAnd, qOr, qNot, qAndV, qOrV, qNotV, qIf, qNil, qCons, qTup, qLst, qCB, qNext, qSeq, qRet, qRetN, qRetO, qIfS, qAsg, qAsgO, qPar, qParO, qPar3, qPar3O, qFrz, qApN, qApp, qStN, qIxO, qLend, qLendT, qNoPart, qPart, qSl, qRevL, qIsi, qSplit, qJoin, qBits, qIL, qIT, qR1, qR2, qIS, qIE, qgN, qgNil, qgCons, qgT, qFor, qLc, qYes, qCall, qCallO, kAdd, kSub, kI0, kI, kMul, kFdiv, kMod, kPow, kLt, kLe, kGt, kGe, kB0, kEq, kNe, kIsN, kNotN, kIn, kNin, kLen, kAbs, kMax2, kInt, kStr, kSum, kAll_, kAny_, kNeg, isN, SD.dat, SD.toDt, okSlot, okP, DL.ownOf, setOwn, flatD, ixq_l, ixq_t, ixq_s, slq_l, slq_s, eqq_ii, eqq_ss, eqq_ll, eqq_tt, inn_l, inn_s, wipeR, freeV]
      exact ⟨f, rfl, (hb f hf).1, (hb f hf).2, fun ys => by simpa [qVar, qC, q2, q1, qTest, qChain, qAnd, qOr, qNot, qAndV, qOrV, qNotV, qIf, qNil, qCons, qTup, qLst, qCB, qNext, qSeq, qRet, qRetN, qRetO, qIfS, qAsg, qAsgO, qPar, qParO, qPar3, qPar3O, qFrz, qApN, qApp, qStN, qIxO, qLend, qLendT, qNoPart, qPart, qSl, qRevL, qIsi, qSplit, qJoin, qBits, qIL, qIT, qR1, qR2, qIS, qIE, qgN, qgNil, qgCons, qgT, qFor, qLc, qYes, qCall, qCallO, kAdd, kSub, kI0, kI, kMul, kFdiv, kMod, kPow, kLt, kLe, kGt, kGe, kB0, kEq, kNe, kIsN, kNotN, kIn, kNin, kLen, kAbs, kMax2, kInt, kStr, kSum, kAll_, kAny_, kNeg, isN, SD.dat, SD.toDt, okSlot, okP, DL.ownOf, setOwn, flatD, ixq_l, ixq_t, ixq_s, slq_l, slq_s, eqq_ii, eqq_ss, eqq_ll, eqq_tt, inn_l, inn_s, wipeR, freeV, frD] using hY⟩
    · simp [qVar, qC, q2, q1, qTest, qChain, qAnd, qOr, qNot, qAndV, qOrV, qNotV, qIf, qNil, qCons, qTup, qLst, qCB, qNext, qSeq, qRet, qRetN, qRetO, qIfS, qAsg, qAsgO, qPar, qParO, qPar3, qPar3O, qFrz, qApN, qApp, qStN, qIxO, qLend, qLendT, qNoPart, qPart, qSl, qRevL, qIsi, qSplit, qJoin, qBits, qIL, qIT, qR1, qR2, qIS, qIE, qgN, qgNil, qgCons, qgT, qFor, qLc, qYes, qCall, qCallO, kAdd, kSub, kI0, kI, kMul, kFdiv, kMod, kPow, kLt, kLe, kGt, kGe, kB0, kEq, kNe, kIsN, kNotN, kIn, kNin, kLen, kAbs, kMax2, kInt, kStr, kSum, kAll_, kAny_, kNeg, isN, SD.dat, SD.toDt, okSlot, okP, DL.ownOf, setOwn, flatD, ixq_l, ixq_t, ixq_s, slq_l, slq_s, eqq_ii, eqq_ss, eqq_ll, eqq_tt, inn_l, inn_s, wipeR, freeV]
      refine ⟨r.map fun f => decide (0 < f.2) && copr f, by simp [frD, Function.comp_def], ?_⟩
      rw [allB_map]
      exact h.at (by simp [hm])
  · simp [hm]
    exact h.at (by simp [hm])
end K90
set_option Elab.async false
set_option linter.all false
set_option maxRecDepth 100000
set_option autoImplicit false
namespace K90
open PySem PySem.Spec PyProof.Rows L2 DL
theorem ix0 {a b : Int} : atI [PyData.int a, PyData.int b] 0 = some (.int a) := rfl
theorem ix1 {a b : Int} : atI [PyData.int a, PyData.int b] 1 = some (.int b) := rfl
theorem mul_bd {a b : Int} (ha : a.natAbs < 10 ^ 9) (hb : b.natAbs < 10 ^ 9) : (a * b).natAbs < 10 ^ 18 := by
  rw [Int.natAbs_mul]
  calc a.natAbs * b.natAbs < 10 ^ 9 * 10 ^ 9 := Nat.mul_lt_mul'' ha hb
    _ = 10 ^ 18 := by decide
theorem ten9 {n : Nat} (h : n < 10 ^ 9) : n < 2 ^ 4000 := Nat.lt_trans h (by decide)
theorem ten18 {n : Nat} (h : n < 10 ^ 18) : n < 2 ^ 4000 := Nat.lt_trans h (by decide)
theorem p_times (as R) (h : d_times as R) : as.length = 2 ∧ q_times { nx := fun ρ => R (.dt .none) (pwOf ρ), rt := fun r ρ => R r (pwOf ρ) } (as ++ List.replicate (N_times.length - 2) .un) := by
  obtain ⟨⟨a, b⟩, ⟨c, d⟩, rfl, ⟨h1, h2, h3⟩, ⟨h4, h5, h6⟩, h⟩ := h
  refine ⟨rfl, ?_⟩
  unfold q_times
  simp only [] at h1 h2 h3 h4 h5 h6
  simp [qVar, qC, q2, q1, qTest, qChain, qAnd, qOr, qNot, qAndV, qOrV, qNotV, qIf, qNil, qCons, qTup, qLst, qCB, qNext, qSeq, qRet, qRetN, qRetO, qIfS, qAsg, qAsgO, qPar, qParO, qPar3, qPar3O, qFrz, qApN, qApp, qStN, qIxO, qLend, qLendT, qNoPart, qPart, qSl, qRevL, qIsi, qSplit, qJoin, qBits, qIL, qIT, qR1, qR2, qIS, qIE, qgN, qgNil, qgCons, qgT, qFor, qLc, qYes, qCall, qCallO, kAdd, kSub, kI0, kI, kMul, kFdiv, kMod, kPow, kLt, kLe, kGt, kGe, kB0, kEq, kNe, kIsN, kNotN, kIn, kNin, kLen, kAbs, kMax2, kInt, kStr, kSum, kAll_, kAny_, kNeg, isN, SD.dat, SD.toDt, okSlot, okP, DL.ownOf, setOwn, flatD, ixq_l, ixq_t, ixq_s, slq_l, slq_s, eqq_ii, eqq_ss, eqq_ll, eqq_tt, inn_l, inn_s, wipeR, freeV, frD, ix0, ix1]
  refine ⟨cmul (ten9 h1) (ten9 h4), cmul (ten9 h3) (ten9 h6), _, _, rfl, Int.mul_pos h2 h5, ten18 (mul_bd h1 h4), ten18 (mul_bd h3 h6), fun ys => ?_⟩
  exact h.at rfl
theorem copr_zero {f : Fr} (h : OkF f) (c : copr f = true) : decide (f.1 = 0 ∧ f.2 = 1) = decide (f.1 = 0) := by
  obtain ⟨a, b⟩ := f
  unfold copr at c
  have c' : Int.gcd a b = 1 := by simpa using c
  have hb : 0 < b := h.2.1
  refine decide_eq_decide.mpr ⟨fun z => z.1, fun z => ⟨z, ?_⟩⟩
  have z' : a = 0 := z
  subst z'
  rw [Int.gcd_zero_left] at c'
  show b = 1
  omega
theorem cutD_take {α : Type} (xs : List PyData) (m : Nat) : DL.cutD xs none (some (m : Int)) = xs.take m := by
  unfold DL.cutD
  rw [show HT.sIx xs.length 0 none = 0 from rfl, HT.sIx_nat, List.drop_zero, Nat.sub_zero]
  rw [← List.take_take, List.take_length]
theorem p_is_plane_by (as R) (h : d_is_plane_by as R) : as.length = 2 ∧ q_is_plane_by { nx := fun ρ => R (.dt .none) (pwOf ρ), rt := fun r ρ => R r (pwOf ρ) } (as ++ List.replicate (N_is_plane_by.length - 2) .un) := by
  obtain ⟨m, r, rfl, hm, hz, hr, h⟩ := h
  refine ⟨rfl, ?_⟩
  unfold q_is_plane_by
  simp [qVar, qC, q2, q1, qTest, qChain, qAnd, qOr, qNot, qAndV, qOrV, qNotV, qIf, qNil, qCons, qTup, qLst, qCB, qNext, qSeq, qRet, qRetN, qRetO, qIfS, qAsg, qAsgO, qPar, qParO, qPar3, qPar3O, qFrz, qApN, qApp, qStN, qIxO, qLend, qLendT, qNoPart, qPart, qSl, qRevL, qIsi, qSplit, qJoin, qBits, qIL, qIT, qR1, qR2, qIS, qIE, qgN, qgNil, qgCons, qgT, qFor, qLc, qYes, qCall, qCallO, kAdd, kSub, kI0, kI, kMul, kFdiv, kMod, kPow, kLt, kLe, kGt, kGe, kB0, kEq, kNe, kIsN, kNotN, kIn, kNin, kLen, kAbs, kMax2, kInt, kStr, kSum, kAll_, kAny_, kNeg, isN, SD.dat, SD.toDt, okSlot, okP, DL.ownOf, setOwn, flatD, ixq_l, ixq_t, ixq_s, slq_l, slq_s, eqq_ii, eqq_ss, eqq_ll, eqq_tt, inn_l, inn_s, wipeR, freeV]
  refine ⟨r, _, rfl, hz, fun f hf => ⟨ten9 (hr f hf).1.1, ten9 (hr f hf).1.2.2⟩, fun ys => ?_⟩
  have e1 : (r.all fun f => decide (0 < f.2) && copr f) = true := List.all_eq_true.mpr fun f hf => by simp [(hr f hf).1.2.1, (hr f hf).2]
  rw [e1]
  simp [rowD]
  by_cases hl : r.length = m + 1
  · simp [qVar, qC, q2, q1, qTest, qChain, qAnd, qOr, qNot, qAndV, qOrV, qNotV, qIf, qNil, qCons, qTup, qLst, qCB, qNext, qSeq, qRet, qRetN, qRetO, qIfS, qAsg, qAsgO, qPar, qParO, qPar3, qPar3O, qFrz, qApN, qApp, qStN, qIxO, qLend, qLendT, qNoPart, qPart, qSl, qRevL, qIsi, qSplit, qJoin, qBits, qIL, qIT, qR1, qR2, qIS, qIE, qgN, qgNil, qgCons, qgT, qFor, qLc, qYes, qCall, qCallO, kAdd, kSub, kI0, kI, kMul, kFdiv, kMod, kPow, kLt, kLe, kGt, kGe, kB0, kEq, kNe, kIsN, kNotN, kIn, kNin, kLen, kAbs, kMax2, kInt, kStr, kSum, kAll_, kAny_, kNeg, isN, SD.dat, SD.toDt, okSlot, okP, DL.ownOf, setOwn, flatD, ixq_l, ixq_t, ixq_s, slq_l, slq_s, eqq_ii, eqq_ss, eqq_ll, eqq_tt, inn_l, inn_s, wipeR, freeV, hl, show ((m : Int) + 1 = m + 1) from rfl]
    rw [cutD_take (α := Nat)]
    refine lc_map rfl (by simp; omega) rfl (fun d => match d with | .tuple [.int a, .int b] => .bool (decide (a ≠ 0)) | _ => .none) ?_ ?_
    · intro d hd Y hY
      obtain ⟨f, hf, rfl⟩ := List.mem_map.mp (List.mem_of_mem_take hd)
      simp [qVar, qC, q2, q1, qTest, qChain, qAnd, qOr, qNot, qAndV, qOrV, qNotV, qIf, qNil, qCons, qTup, qLst, qCB, qNext, qSeq, qRet, qRetN, qRetO, qIfS, qAsg, qAsgO, qPar, qParO, qPar3, qPar3O, qFrz, qApN, qApp, qStN, qIxO, qLend, qLendT, qNoPart, qPart, qSl, qRevL, qIsi, qSplit, qJoin, qBits, qIL, qIT, qR1, qR2, qIS, qIE, qgN, qgNil, qgCons, qgT, qFor, qLc, qYes, qCall, qCallO, kAdd, kSub, kI0, kI, kMul, kFdiv, kMod, kPow, kLt, kLe, kGt, kGe, kB0, kEq, kNe, kIsN, kNotN, kIn, kNin, kLen, kAbs, kMax2, kInt, kStr, kSum, kAll_, kAny_, kNeg, isN, SD.dat, SD.toDt, okSlot, okP, DL.ownOf, setOwn, flatD, ixq_l, ixq_t, ixq_s, slq_l, slq_s, eqq_ii, eqq_ss, eqq_ll, eqq_tt, inn_l, inn_s, wipeR, freeV, frD]
      refine ⟨shaped_fr, shaped_fr, ?_⟩
      have e := copr_zero (hr f hf).1 (hr f hf).2
      rw [eqv_fr, e]
      simpa [frD] using hY
    · simp [qVar, qC, q2, q1, qTest, qChain, qAnd, qOr, qNot, qAndV, qOrV, qNotV, qIf, qNil, qCons, qTup, qLst, qCB, qNext, qSeq, qRet, qRetN, qRetO, qIfS, qAsg, qAsgO, qPar, qParO, qPar3, qPar3O, qFrz, qApN, qApp, qStN, qIxO, qLend, qLendT, qNoPart, qPart, qSl, qRevL, qIsi, qSplit, qJoin, qBits, qIL, qIT, qR1, qR2, qIS, qIE, qgN, qgNil, qgCons, qgT, qFor, qLc, qYes, qCall, qCallO, kAdd, kSub, kI0, kI, kMul, kFdiv, kMod, kPow, kLt, kLe, kGt, kGe, kB0, kEq, kNe, kIsN, kNotN, kIn, kNin, kLen, kAbs, kMax2, kInt, kStr, kSum, kAll_, kAny_, kNeg, isN, SD.dat, SD.toDt, okSlot, okP, DL.ownOf, setOwn, flatD, ixq_l, ixq_t, ixq_s, slq_l, slq_s, eqq_ii, eqq_ss, eqq_ll, eqq_tt, inn_l, inn_s, wipeR, freeV]
      refine ⟨(r.take m).map fun f => decide (f.1 ≠ 0), by simp [frD, Function.comp_def, ← List.map_take], ?_⟩
      rw [anyB_map]
      refine h.at ?_
      unfold okRow
      simp [hl]
  · have hl' : ¬ (r.length : Int) = m + 1 := by omega
    simp [hl']
    exact h.at (by simp [okRow, hl])
theorem at0_get {r : List Fr} {i : Nat} (h : i < r.length) : atI (r.map frD) (i : Int) = some (frD (at0 r i)) := by
  have e : ixN (r.map frD).length (i : Int) = some i := by unfold ixN; simp; omega
  unfold atI
  rw [e]
  show (r.map frD)[i]? = _
  rw [List.getElem?_map]
  unfold at0
  rw [List.getD_eq_getElem?_getD, List.getElem?_eq_getElem h]
  rfl
theorem at0_mem {r : List Fr} {i : Nat} (h : i < r.length) : at0 r i ∈ r := by
  unfold at0
  rw [List.getD_eq_getElem?_getD, List.getElem?_eq_getElem h]
  exact List.getElem_mem h
theorem sameR_iff {x y : List Fr} : sameR x y = true ↔ ∀ e l : Nat, e < l → l < x.length → mulF (at0 x e) (at0 y l) = mulF (at0 x l) (at0 y e) := by
  unfold sameR
  simp [List.all_eq_true]
  exact ⟨fun h e l h1 h2 => h l h2 e h1, fun h l h2 e h1 => h e l h1 h2⟩
theorem rngD_get {lo : Int} {n i : Nat} {d : PyData} (h : (rngD lo n)[i]? = some d) : i < n ∧ d = .int (lo + (i : Nat)) := by
  have hi : i < n := by
    have := (List.getElem?_eq_some_iff.mp h).1
    simpa [rngD] using this
  refine ⟨hi, ?_⟩
  simp [rngD, hi] at h
  exact h.symm
theorem rngD_len {lo : Int} {n : Nat} : (rngD lo n).length = n := by simp [rngD]
theorem shaped_low {f : Fr} : SeqAt.shaped (frD f) = true := shaped_fr
theorem eqv_frD {f g : Fr} : PyData.eqv (frD f) (frD g) = decide (f = g) := by
  unfold frD
  rw [eqv_fr]
  exact decide_eq_decide.mpr ⟨fun ⟨a, b⟩ => Prod.ext a b, fun e => by rw [e]; exact ⟨rfl, rfl⟩⟩
theorem eqq_fr {f g : Fr} {Q : Bool → Prop} : eqq (frD f) (frD g) Q = (SeqAt.shaped (frD f) = true ∧ SeqAt.shaped (frD g) = true ∧ Q (PyData.eqv (frD f) (frD g))) := rfl
theorem p_are_same (as R) (h : d_are_same as R) : as.length = 2 ∧ q_are_same { nx := fun ρ => R (.dt .none) (pwOf ρ), rt := fun r ρ => R r (pwOf ρ) } (as ++ List.replicate (N_are_same.length - 2) .un) := by
  obtain ⟨x, y, rfl, hl, hn, hx, hy, h⟩ := h
  refine ⟨rfl, ?_⟩
  unfold q_are_same
  simp [qVar, qC, q2, q1, qTest, qChain, qAnd, qOr, qNot, qAndV, qOrV, qNotV, qIf, qNil, qCons, qTup, qLst, qCB, qNext, qSeq, qRet, qRetN, qRetO, qIfS, qAsg, qAsgO, qPar, qParO, qPar3, qPar3O, qFrz, qApN, qApp, qStN, qIxO, qLend, qLendT, qNoPart, qPart, qSl, qRevL, qIsi, qSplit, qJoin, qBits, qIL, qIT, qR1, qR2, qIS, qIE, qgN, qgNil, qgCons, qgT, qFor, qLc, qYes, qCall, qCallO, kAdd, kSub, kI0, kI, kMul, kFdiv, kMod, kPow, kLt, kLe, kGt, kGe, kB0, kEq, kNe, kIsN, kNotN, kIn, kNin, kLen, kAbs, kMax2, kInt, kStr, kSum, kAll_, kAny_, kNeg, isN, SD.dat, SD.toDt, okSlot, okP, DL.ownOf, setOwn, flatD, ixq_l, ixq_t, ixq_s, slq_l, slq_s, eqq_ii, eqq_ss, eqq_ll, eqq_tt, inn_l, inn_s, wipeR, freeV, rowD]
  refine ⟨by omega, ?_⟩
  refine ⟨fun i ρ => ∃ s1 s2 : SD, okP (some s1) = true ∧ okP (some s2) = true ∧ ρ = [.dt (rowD x), .dt (rowD y), s1, s2] ∧ ∀ e l : Nat, e < i → e < l → l < x.length → mulF (at0 x e) (at0 y l) = mulF (at0 x l) (at0 y e), ⟨.un, .un, rfl, rfl, rfl, fun e l h1 => absurd h1 (Nat.not_lt_zero _)⟩, ?_, ?_⟩
  · rintro i d _ hd ⟨s1, s2, o1, o2, rfl, hI⟩
    obtain ⟨hi, rfl⟩ := rngD_get hd
    simp only [Int.zero_add] at *
    simp [qVar, qC, q2, q1, qTest, qChain, qAnd, qOr, qNot, qAndV, qOrV, qNotV, qIf, qNil, qCons, qTup, qLst, qCB, qNext, qSeq, qRet, qRetN, qRetO, qIfS, qAsg, qAsgO, qPar, qParO, qPar3, qPar3O, qFrz, qApN, qApp, qStN, qIxO, qLend, qLendT, qNoPart, qPart, qSl, qRevL, qIsi, qSplit, qJoin, qBits, qIL, qIT, qR1, qR2, qIS, qIE, qgN, qgNil, qgCons, qgT, qFor, qLc, qYes, qCall, qCallO, kAdd, kSub, kI0, kI, kMul, kFdiv, kMod, kPow, kLt, kLe, kGt, kGe, kB0, kEq, kNe, kIsN, kNotN, kIn, kNin, kLen, kAbs, kMax2, kInt, kStr, kSum, kAll_, kAny_, kNeg, isN, SD.dat, SD.toDt, okSlot, okP, DL.ownOf, setOwn, flatD, ixq_l, ixq_t, ixq_s, slq_l, slq_s, eqq_ii, eqq_ss, eqq_ll, eqq_tt, inn_l, inn_s, wipeR, freeV, rowD]
    refine ⟨(by cases s1 <;> first | rfl | cases o1), _, _, ⟨rfl, rfl⟩, by omega, ?_⟩
    have en : ((x.length : Int) - (((i : Nat) : Int) + 1)).toNat = x.length - (i + 1) := by omega
    rw [en]
    refine ⟨fun j ρ => ∃ s2 : SD, okP (some s2) = true ∧ ρ = [.dt (rowD x), .dt (rowD y), .dt (.int i), s2] ∧ ∀ l : Nat, i < l → l < i + 1 + j → l < x.length → mulF (at0 x i) (at0 y l) = mulF (at0 x l) (at0 y i), ⟨s2, o2, rfl, fun l h1 h2 => absurd h2 (by omega)⟩, ?_, ?_⟩
    · rintro j d _ hd ⟨s2, o2, rfl, hJ⟩
      obtain ⟨hj, rfl⟩ := rngD_get hd
      have e1 : ((i : Int) + 1 + (j : Nat)) = ((i + 1 + j : Nat) : Int) := by omega
      rw [e1]
      simp [qVar, qC, q2, q1, qTest, qChain, qAnd, qOr, qNot, qAndV, qOrV, qNotV, qIf, qNil, qCons, qTup, qLst, qCB, qNext, qSeq, qRet, qRetN, qRetO, qIfS, qAsg, qAsgO, qPar, qParO, qPar3, qPar3O, qFrz, qApN, qApp, qStN, qIxO, qLend, qLendT, qNoPart, qPart, qSl, qRevL, qIsi, qSplit, qJoin, qBits, qIL, qIT, qR1, qR2, qIS, qIE, qgN, qgNil, qgCons, qgT, qFor, qLc, qYes, qCall, qCallO, kAdd, kSub, kI0, kI, kMul, kFdiv, kMod, kPow, kLt, kLe, kGt, kGe, kB0, kEq, kNe, kIsN, kNotN, kIn, kNin, kLen, kAbs, kMax2, kInt, kStr, kSum, kAll_, kAny_, kNeg, isN, SD.dat, SD.toDt, okSlot, okP, DL.ownOf, setOwn, flatD, ixq_l, ixq_t, ixq_s, slq_l, slq_s, eqq_ii, eqq_ss, eqq_ll, eqq_tt, inn_l, inn_s, wipeR, freeV, rowD]
      have hll : i + 1 + j < x.length := by omega
      rw [show ((i : Int) + 1 + (j : Int)) = ((i + 1 + j : Nat) : Int) by omega]
      refine ⟨(by cases s2 <;> first | rfl | cases o2), _, at0_get hi, _, at0_get (by omega), ?_⟩
      refine ⟨_, _, rfl, hx _ (at0_mem hi), hy _ (at0_mem (by omega)), fun ys => ?_⟩
      refine ⟨_, at0_get hll, _, at0_get (by omega), ?_⟩
      refine ⟨_, _, rfl, hx _ (at0_mem hll), hy _ (at0_mem (by omega)), fun ys => ?_⟩
      simp only [SD.dat, eqq_fr]
      refine ⟨shaped_low, shaped_low, ?_⟩
      rw [eqv_frD]
      by_cases hq : mulF (at0 x i) (at0 y (i + 1 + j)) = mulF (at0 x (i + 1 + j)) (at0 y i)
      · simp [hq]
        refine ⟨.dt (.int ((i + 1 + j : Nat) : Int)), rfl, rfl, fun l h1 h2 h3 => ?_⟩
        by_cases hlt : l < i + 1 + j
        · exact hJ l h1 hlt h3
        · have : l = i + 1 + j := by omega
          subst this
          exact hq
      · simp [hq]
        refine h.at ?_
        have : sameR x y = false := by
          cases hs : sameR x y
          · rfl
          · exact absurd (sameR_iff.mp hs i (i + 1 + j) (by omega) hll) hq
        rw [this]
    · rintro _ ⟨s2, o2, rfl, hJ⟩
      rw [rngD_len] at hJ
      refine ⟨.dt (.int i), rfl, s2, o2, rfl, fun e l h1 h2 h3 => ?_⟩
      by_cases he : e < i
      · exact hI e l he h2 h3
      · have : e = i := by omega
        subst this
        exact hJ l h2 (by omega) h3
  · rintro _ ⟨s1, s2, o1, o2, rfl, hI⟩
    rw [rngD_len] at hI
    simp [qVar, qC, q2, q1, qTest, qChain, qAnd, qOr, qNot, qAndV, qOrV, qNotV, qIf, qNil, qCons, qTup, qLst, qCB, qNext, qSeq, qRet, qRetN, qRetO, qIfS, qAsg, qAsgO, qPar, qParO, qPar3, qPar3O, qFrz, qApN, qApp, qStN, qIxO, qLend, qLendT, qNoPart, qPart, qSl, qRevL, qIsi, qSplit, qJoin, qBits, qIL, qIT, qR1, qR2, qIS, qIE, qgN, qgNil, qgCons, qgT, qFor, qLc, qYes, qCall, qCallO, kAdd, kSub, kI0, kI, kMul, kFdiv, kMod, kPow, kLt, kLe, kGt, kGe, kB0, kEq, kNe, kIsN, kNotN, kIn, kNin, kLen, kAbs, kMax2, kInt, kStr, kSum, kAll_, kAny_, kNeg, isN, SD.dat, SD.toDt, okSlot, okP, DL.ownOf, setOwn, flatD, ixq_l, ixq_t, ixq_s, slq_l, slq_s, eqq_ii, eqq_ss, eqq_ll, eqq_tt, inn_l, inn_s, wipeR, freeV]
    refine h.at ?_
    rw [sameR_iff.mpr fun e l h1 h2 => hI e l (by omega) h1 h2]
theorem num_len {i : Int} (h : i.natAbs < 10 ^ 30) : (num i).length ≤ 31 := by
  unfold num
  rw [PySem.ofString_length]
  exact int_text_length_le10 (by decide) h
theorem num_log {i : Int} (h : i.natAbs < 10 ^ 30) : i.natAbs.log2 < 1920 := log_lt (n := 100) (Nat.lt_trans h (by decide))
theorem str_app_len (a b : Str) : (a ++ b).length = a.length + b.length := PySem.Str.length_append a b
theorem p_fraction_words (as R) (h : d_fraction_words as R) : as.length = 1 ∧ q_fraction_words { nx := fun ρ => R (.dt .none) (pwOf ρ), rt := fun r ρ => R r (pwOf ρ) } (as ++ List.replicate (N_fraction_words.length - 1) .un) := by
  obtain ⟨⟨a, b⟩, rfl, h1, h2, h⟩ := h
  refine ⟨rfl, ?_⟩
  unfold q_fraction_words
  simp only [] at h1 h2
  have l1 := num_len h1
  have l2 := num_len h2
  simp [qVar, qC, q2, q1, qTest, qChain, qAnd, qOr, qNot, qAndV, qOrV, qNotV, qIf, qNil, qCons, qTup, qLst, qCB, qNext, qSeq, qRet, qRetN, qRetO, qIfS, qAsg, qAsgO, qPar, qParO, qPar3, qPar3O, qFrz, qApN, qApp, qStN, qIxO, qLend, qLendT, qNoPart, qPart, qSl, qRevL, qIsi, qSplit, qJoin, qBits, qIL, qIT, qR1, qR2, qIS, qIE, qgN, qgNil, qgCons, qgT, qFor, qLc, qYes, qCall, qCallO, kAdd, kSub, kI0, kI, kMul, kFdiv, kMod, kPow, kLt, kLe, kGt, kGe, kB0, kEq, kNe, kIsN, kNotN, kIn, kNin, kLen, kAbs, kMax2, kInt, kStr, kSum, kAll_, kAny_, kNeg, isN, SD.dat, SD.toDt, okSlot, okP, DL.ownOf, setOwn, flatD, ixq_l, ixq_t, ixq_s, slq_l, slq_s, eqq_ii, eqq_ss, eqq_ll, eqq_tt, inn_l, inn_s, wipeR, freeV, frD, ix0, ix1, num_log h1, num_log h2]
  by_cases hb : b = 1
  · simp [hb]
    exact h.at (by simp [fw, hb, num])
  · simp [hb]
    have l0 : ("/" : Str).length = 1 := by decide
    have e1 : (Str.ofString a.repr).length ≤ 31 := l1
    have e2 : (Str.ofString b.repr).length ≤ 31 := l2
    have e3 : (31 + 1 + 31 ≤ sizeLine) := by decide
    refine ⟨by omega, by rw [str_app_len]; omega, ?_⟩
    exact h.at (by simp [fw, hb, num])
end K90
set_option Elab.async false
set_option linter.all false
set_option maxRecDepth 100000
set_option autoImplicit false
namespace K90
open PySem PySem.Spec PyProof.Rows L2 DL
theorem lenS (w : Str) : (codes w).length = w.length := by simp [codes, Str.length]
theorem sign_eq (c d : Nat) : decide ((⟨#[c]⟩ : Str) = ⟨#[d]⟩) = decide (c = d) := decide_eq_decide.mpr ⟨fun h => by cases h; rfl, fun h => by rw [h]⟩
theorem s0 : ("0" : Str) = ⟨#[48]⟩ := by decide
theorem digits_cps : codes ("0123456789" : Str) = [48, 49, 50, 51, 52, 53, 54, 55, 56, 57] := by decide
theorem digC_mem (c : Nat) : decide (c ∈ codes ("0123456789" : Str)) = digC c := by
  rw [digits_cps]
  unfold digC
  refine decide_eq_decide.mpr ?_
  simp
  omega
theorem sgn_mem {w : Str} {d : PyData} (h : d ∈ sgn w) : ∃ c ∈ codes w, d = .str ⟨#[c]⟩ := by
  unfold sgn at h
  obtain ⟨c, h1, h2⟩ := List.mem_map.mp h
  exact ⟨c, h1, h2.symm⟩
theorem sgn_len (w : Str) : (sgn w).length = w.length := by simp [sgn, Str.length]
def dSign : PyData → PyData | .str x => .bool (match x.cps.toList with | [c] => digC c | _ => false) | _ => .none
theorem head_at {w : Str} (h : 1 ≤ w.length) : ∃ c, atI (codes w) 0 = some c ∧ (codes w).head? = some c := by
  have h' : 0 < (codes w).length := by rw [lenS]; omega
  refine ⟨(codes w)[0], ?_, ?_⟩
  · have e : ixN (codes w).length (0 : Int) = some 0 := by unfold ixN; rw [if_pos (by omega), if_pos (by omega)]; rfl
    unfold atI
    rw [e]
    exact List.getElem?_eq_getElem h'
  · rw [List.head?_eq_getElem?]
    exact List.getElem?_eq_getElem h'
theorem sz : (200000 : Nat) ≤ sizeLine := by decide
theorem p_is_digits (as R) (h : d_is_digits as R) : as.length = 1 ∧ q_is_digits { nx := fun ρ => R (.dt .none) (pwOf ρ), rt := fun r ρ => R r (pwOf ρ) } (as ++ List.replicate (N_is_digits.length - 1) .un) := by
  obtain ⟨w, rfl, hz, hasc, h⟩ := h
  refine ⟨rfl, ?_⟩
  unfold q_is_digits
  have hs : w.length ≤ sizeLine := Nat.le_trans hz sz
  simp [qVar, qC, q2, q1, qTest, qChain, qAnd, qOr, qNot, qAndV, qOrV, qNotV, qIf, qNil, qCons, qTup, qLst, qCB, qNext, qSeq, qRet, qRetN, qRetO, qIfS, qAsg, qAsgO, qPar, qParO, qPar3, qPar3O, qFrz, qApN, qApp, qStN, qIxO, qLend, qLendT, qNoPart, qPart, qSl, qRevL, qIsi, qSplit, qJoin, qBits, qIL, qIT, qR1, qR2, qIS, qIE, qgN, qgNil, qgCons, qgT, qFor, qLc, qYes, qCall, qCallO, kAdd, kSub, kI0, kI, kMul, kFdiv, kMod, kPow, kLt, kLe, kGt, kGe, kB0, kEq, kNe, kIsN, kNotN, kIn, kNin, kLen, kAbs, kMax2, kInt, kStr, kSum, kAll_, kAny_, kNeg, isN, SD.dat, SD.toDt, okSlot, okP, DL.ownOf, setOwn, flatD, ixq_l, ixq_t, ixq_s, slq_l, slq_s, eqq_ii, eqq_ss, eqq_ll, eqq_tt, inn_l, inn_s, wipeR, freeV, hs]
  by_cases h1 : 1 ≤ w.length
  · by_cases h9 : w.length ≤ 9
    · have i1 : (1 : Int) ≤ w.length := by omega
      have i9 : (w.length : Int) ≤ 9 := by omega
      simp [i1, i9]
      refine lc_map rfl (by rw [sgn_len]; exact hs) rfl dSign ?_ ?_
      · intro d hd Y hY
        obtain ⟨c, hc, rfl⟩ := sgn_mem hd
        simp [qVar, qC, q2, q1, qTest, qChain, qAnd, qOr, qNot, qAndV, qOrV, qNotV, qIf, qNil, qCons, qTup, qLst, qCB, qNext, qSeq, qRet, qRetN, qRetO, qIfS, qAsg, qAsgO, qPar, qParO, qPar3, qPar3O, qFrz, qApN, qApp, qStN, qIxO, qLend, qLendT, qNoPart, qPart, qSl, qRevL, qIsi, qSplit, qJoin, qBits, qIL, qIT, qR1, qR2, qIS, qIE, qgN, qgNil, qgCons, qgT, qFor, qLc, qYes, qCall, qCallO, kAdd, kSub, kI0, kI, kMul, kFdiv, kMod, kPow, kLt, kLe, kGt, kGe, kB0, kEq, kNe, kIsN, kNotN, kIn, kNin, kLen, kAbs, kMax2, kInt, kStr, kSum, kAll_, kAny_, kNeg, isN, SD.dat, SD.toDt, okSlot, okP, DL.ownOf, setOwn, flatD, ixq_l, ixq_t, ixq_s, slq_l, slq_s, eqq_ii, eqq_ss, eqq_ll, eqq_tt, inn_l, inn_s, wipeR, freeV]
        rw [digC_mem]
        exact hY
      · simp [qVar, qC, q2, q1, qTest, qChain, qAnd, qOr, qNot, qAndV, qOrV, qNotV, qIf, qNil, qCons, qTup, qLst, qCB, qNext, qSeq, qRet, qRetN, qRetO, qIfS, qAsg, qAsgO, qPar, qParO, qPar3, qPar3O, qFrz, qApN, qApp, qStN, qIxO, qLend, qLendT, qNoPart, qPart, qSl, qRevL, qIsi, qSplit, qJoin, qBits, qIL, qIT, qR1, qR2, qIS, qIE, qgN, qgNil, qgCons, qgT, qFor, qLc, qYes, qCall, qCallO, kAdd, kSub, kI0, kI, kMul, kFdiv, kMod, kPow, kLt, kLe, kGt, kGe, kB0, kEq, kNe, kIsN, kNotN, kIn, kNin, kLen, kAbs, kMax2, kInt, kStr, kSum, kAll_, kAny_, kNeg, isN, SD.dat, SD.toDt, okSlot, okP, DL.ownOf, setOwn, flatD, ixq_l, ixq_t, ixq_s, slq_l, slq_s, eqq_ii, eqq_ss, eqq_ll, eqq_tt, inn_l, inn_s, wipeR, freeV]
        refine ⟨(codes w).map digC, by simp [sgn, dSign, Function.comp_def, codes], ?_⟩
        obtain ⟨c, hc, hc2⟩ := head_at h1
        rw [allB_map]
        have e3 : ∀ b : Bool, b = digB w → R (SD.dt (PyData.bool b)) (pwOf [SD.dt (PyData.str w), SD.un]) := fun b e => h.at (by rw [e])
        generalize ha : (codes w).all digC = b at *
        cases b with
        | false =>
          simp
          exact e3 _ (by unfold digB; rw [ha]; simp)
        | true =>
          simp
          refine ⟨hs, c, hc, ?_⟩
          have k : digB w = (decide (c ≠ 48) || decide (w.length = 1)) := by
            unfold digB
            rw [ha, hc2]
            simp [h1, h9]
          have k2 : decide ((⟨#[c]⟩ : Str) = "0") = decide (c = 48) := by rw [s0, sign_eq]
          have k3 : ((⟨#[c]⟩ : Str) = "0") ↔ c = 48 := by
            have := decide_eq_decide.mp k2
            exact this
          simp only [k3]
          by_cases h48 : c = 48
          · exact .inl ⟨h48, hs, e3 _ (by rw [k]; simp [h48]; omega)⟩
          · exact .inr ⟨h48, e3 _ (by rw [k]; simp [h48])⟩
    · have i1 : (1 : Int) ≤ w.length := by omega
      have i9 : ¬ (w.length : Int) ≤ 9 := by omega
      simp [i1, i9]
      exact h.at (by simp [digB, h9])
  · have i1 : ¬ (1 : Int) ≤ w.length := by omega
    simp [i1]
    exact h.at (by simp [digB, h1])
theorem p__law_digits (as R) (h : d__law_digits as R) : as.length = 1 ∧ q__law_digits { nx := fun ρ => R (.dt .none) (pwOf ρ), rt := fun r ρ => R r (pwOf ρ) } (as ++ List.replicate (N__law_digits.length - 1) .un) := by
  obtain ⟨w, rfl, hz, hasc, h⟩ := h
  refine ⟨rfl, ?_⟩
  unfold q__law_digits
  have hs : w.length ≤ sizeLine := Nat.le_trans hz sz
  simp [qVar, qC, q2, q1, qTest, qChain, qAnd, qOr, qNot, qAndV, qOrV, qNotV, qIf, qNil, qCons, qTup, qLst, qCB, qNext, qSeq, qRet, qRetN, qRetO, qIfS, qAsg, qAsgO, qPar, qParO, qPar3, qPar3O, qFrz, qApN, qApp, qStN, qIxO, qLend, qLendT, qNoPart, qPart, qSl, qRevL, qIsi, qSplit, qJoin, qBits, qIL, qIT, qR1, qR2, qIS, qIE, qgN, qgNil, qgCons, qgT, qFor, qLc, qYes, qCall, qCallO, kAdd, kSub, kI0, kI, kMul, kFdiv, kMod, kPow, kLt, kLe, kGt, kGe, kB0, kEq, kNe, kIsN, kNotN, kIn, kNin, kLen, kAbs, kMax2, kInt, kStr, kSum, kAll_, kAny_, kNeg, isN, SD.dat, SD.toDt, okSlot, okP, DL.ownOf, setOwn, flatD, ixq_l, ixq_t, ixq_s, slq_l, slq_s, eqq_ii, eqq_ss, eqq_ll, eqq_tt, inn_l, inn_s, wipeR, freeV, hs]
  have e3 : ∀ b : Bool, b = digB w → R (SD.dt (PyData.bool b)) (pwOf [SD.dt (PyData.str w), SD.un]) := fun b e => h.at (by rw [e])
  by_cases h1 : 1 ≤ w.length
  · by_cases h9 : w.length ≤ 9
    · have i1 : (1 : Int) ≤ w.length := by omega
      have i9 : (w.length : Int) ≤ 9 := by omega
      simp [i1, i9]
      refine lc_filter rfl (by rw [sgn_len]; exact hs) rfl (fun d => match dSign d with | .bool b => !b | _ => false) id ?_ ?_
      · intro d hd Y N hY hN
        obtain ⟨c, hc, rfl⟩ := sgn_mem hd
        simp [qVar, qC, q2, q1, qTest, qChain, qAnd, qOr, qNot, qAndV, qOrV, qNotV, qIf, qNil, qCons, qTup, qLst, qCB, qNext, qSeq, qRet, qRetN, qRetO, qIfS, qAsg, qAsgO, qPar, qParO, qPar3, qPar3O, qFrz, qApN, qApp, qStN, qIxO, qLend, qLendT, qNoPart, qPart, qSl, qRevL, qIsi, qSplit, qJoin, qBits, qIL, qIT, qR1, qR2, qIS, qIE, qgN, qgNil, qgCons, qgT, qFor, qLc, qYes, qCall, qCallO, kAdd, kSub, kI0, kI, kMul, kFdiv, kMod, kPow, kLt, kLe, kGt, kGe, kB0, kEq, kNe, kIsN, kNotN, kIn, kNin, kLen, kAbs, kMax2, kInt, kStr, kSum, kAll_, kAny_, kNeg, isN, SD.dat, SD.toDt, okSlot, okP, DL.ownOf, setOwn, flatD, ixq_l, ixq_t, ixq_s, slq_l, slq_s, eqq_ii, eqq_ss, eqq_ll, eqq_tt, inn_l, inn_s, wipeR, freeV]
        have k : decide (c ∈ codes ("0123456789" : Str)) = digC c := digC_mem c
        have k' : (c ∈ codes ("0123456789" : Str)) ↔ digC c = true := by
          rw [← k]; simp
        simp only [k']
        by_cases hd2 : digC c = true
        · simp [hd2]
          exact hN (by simp [dSign, hd2])
        · simp [hd2]
          exact hY (by simp [dSign, hd2])
      · simp [qVar, qC, q2, q1, qTest, qChain, qAnd, qOr, qNot, qAndV, qOrV, qNotV, qIf, qNil, qCons, qTup, qLst, qCB, qNext, qSeq, qRet, qRetN, qRetO, qIfS, qAsg, qAsgO, qPar, qParO, qPar3, qPar3O, qFrz, qApN, qApp, qStN, qIxO, qLend, qLendT, qNoPart, qPart, qSl, qRevL, qIsi, qSplit, qJoin, qBits, qIL, qIT, qR1, qR2, qIS, qIE, qgN, qgNil, qgCons, qgT, qFor, qLc, qYes, qCall, qCallO, kAdd, kSub, kI0, kI, kMul, kFdiv, kMod, kPow, kLt, kLe, kGt, kGe, kB0, kEq, kNe, kIsN, kNotN, kIn, kNin, kLen, kAbs, kMax2, kInt, kStr, kSum, kAll_, kAny_, kNeg, isN, SD.dat, SD.toDt, okSlot, okP, DL.ownOf, setOwn, flatD, ixq_l, ixq_t, ixq_s, slq_l, slq_s, eqq_ii, eqq_ss, eqq_ll, eqq_tt, inn_l, inn_s, wipeR, freeV]
        have hshape : SeqAt.shaped (.list ((sgn w).filter fun d => match dSign d with | .bool b => !b | _ => false)) = true := (shq_list (n := 0) fun x hx => by
          obtain ⟨c, hc, rfl⟩ := sgn_mem (List.mem_filter.mp hx).1
          exact shq_str (by simp [PyData.canLay0, PyData.strOk]; have := hasc c hc; omega)).ok
        refine ⟨hshape, shaped_nil, ?_⟩
        rw [eqv_nil]
        have e5 : ((sgn w).filter fun d => match dSign d with | .bool b => !b | _ => false).isEmpty = (codes w).all digC := by
          unfold sgn
          show (((codes w).map fun c => PyData.str ⟨#[c]⟩).filter _).isEmpty = _
          rw [List.filter_map, List.isEmpty_map]
          induction codes w with
          | nil => rfl
          | cons c r ih =>
            by_cases hc : digC c = true
            · simp [List.filter_cons, dSign, hc] at ih ⊢
              exact ih
            · simp [List.filter_cons, dSign, hc]
        rw [e5]
        obtain ⟨c, hc, hc2⟩ := head_at h1
        generalize ha : (codes w).all digC = b at *
        cases b with
        | false =>
          simp
          exact e3 _ (by unfold digB; rw [ha]; simp)
        | true =>
          simp
          refine ⟨hs, c, hc, ?_⟩
          have k : digB w = (decide (c ≠ 48) || decide (w.length = 1)) := by
            unfold digB
            rw [ha, hc2]
            simp [h1, h9]
          have k2 : decide ((⟨#[c]⟩ : Str) = "0") = decide (c = 48) := by rw [s0, sign_eq]
          have k3 : ((⟨#[c]⟩ : Str) = "0") ↔ c = 48 := by
            have := decide_eq_decide.mp k2
            exact this
          simp only [k3]
          by_cases h48 : c = 48
          · exact .inl ⟨h48, hs, e3 _ (by rw [k]; simp [h48]; omega)⟩
          · exact .inr ⟨h48, e3 _ (by rw [k]; simp [h48])⟩
    · have i1 : (1 : Int) ≤ w.length := by omega
      have i9 : ¬ (w.length : Int) ≤ 9 := by omega
      simp [i1, i9]
      exact h.at (by simp [digB, h9])
  · have i1 : ¬ (1 : Int) ≤ w.length := by omega
    simp [i1]
    exact h.at (by simp [digB, h1])
end K90
set_option Elab.async false
set_option linter.all false
set_option maxRecDepth 100000
set_option autoImplicit false
namespace K90
open PySem PySem.Spec PyProof.Rows L2 DL
/-! ### texts -/
theorem codes_tl (x : Str) : codes x = TL.tl x := rfl
theorem spl_facts (S : List Nat) : ∀ (l : List Nat) (k : Nat) (acc : List Nat), (∀ p ∈ TL.spl S k acc l, (∀ c ∈ p, c ∈ acc ∨ c ∈ l) ∧ p.length ≤ acc.length + l.length) ∧ (TL.spl S k acc l).length ≤ l.length + 1 ∧ TL.spl S k acc l ≠ []
  | [], k, acc => by
    rw [TL.spl_nil]
    exact ⟨fun p hp => by rw [List.mem_singleton.mp hp]; exact ⟨fun c hc => .inl hc, by simp⟩, by simp, by simp⟩
  | c :: r, 0, acc => by
    by_cases h : TL.pre S (c :: r) = true
    · rw [TL.spl_hit h]
      obtain ⟨h1, h2, h3⟩ := spl_facts S r (S.length - 1) []
      refine ⟨fun p hp => ?_, by simp; omega, by simp⟩
      rcases List.mem_cons.mp hp with e | hp
      · rw [e]; exact ⟨fun c hc => .inl hc, by simp⟩
      · obtain ⟨q1, q2⟩ := h1 p hp
        refine ⟨fun d hd => ?_, by simp at q2 ⊢; omega⟩
        rcases q1 d hd with z | z
        · cases z
        · exact .inr (List.mem_cons_of_mem _ z)
    · rw [TL.spl_miss (by simpa using h)]
      obtain ⟨h1, h2, h3⟩ := spl_facts S r 0 (acc ++ [c])
      refine ⟨fun p hp => ?_, by simp; omega, h3⟩
      obtain ⟨q1, q2⟩ := h1 p hp
      refine ⟨fun d hd => ?_, by simp at q2 ⊢; omega⟩
      rcases q1 d hd with z | z
      · rcases List.mem_append.mp z with z | z
        · exact .inl z
        · exact .inr (by rw [List.mem_singleton.mp z]; exact List.mem_cons_self)
      · exact .inr (List.mem_cons_of_mem _ z)
  | c :: r, k + 1, acc => by
    show (∀ p ∈ TL.spl S k acc r, _) ∧ (TL.spl S k acc r).length ≤ _ ∧ TL.spl S k acc r ≠ []
    obtain ⟨h1, h2, h3⟩ := spl_facts S r k acc
    refine ⟨fun p hp => ?_, by simp; omega, h3⟩
    obtain ⟨q1, q2⟩ := h1 p hp
    refine ⟨fun d hd => ?_, by simp at q2 ⊢; omega⟩
    rcases q1 d hd with z | z
    · exact .inl z
    · exact .inr (List.mem_cons_of_mem _ z)
theorem split_facts {x y : Str} (hy : codes y ≠ []) (hk : y.cps.all (· < 256) = true) : (∀ p ∈ Txt.split x y, (∀ c ∈ codes p, c ∈ codes x) ∧ p.length ≤ x.length) ∧ (Txt.split x y).length ≤ x.length + 1 ∧ Txt.split x y ≠ [] := by
  have e := TL.split_spl x y hy (TL.kind_ok hk)
  obtain ⟨h1, h2, h3⟩ := spl_facts (TL.tl y) (TL.tl x) 0 []
  rw [← e] at h1 h2 h3
  refine ⟨fun p hp => ?_, by simpa [← lenS, codes_tl] using h2, by simpa using h3⟩
  obtain ⟨q1, q2⟩ := h1 (TL.tl p) (List.mem_map.mpr ⟨p, hp, rfl⟩)
  refine ⟨fun c hc => ?_, by simpa [← lenS, codes_tl] using q2⟩
  rcases q1 c hc with z | z
  · cases z
  · exact z
theorem cutS_facts {x : Str} {lo hi : Option Int} : (∀ c ∈ codes (cutS x lo hi), c ∈ codes x) ∧ (cutS x lo hi).length ≤ x.length := by
  have e : codes (cutS x lo hi) = ((codes x).drop (HT.sIx x.length 0 lo)).take (HT.sIx x.length x.length hi - HT.sIx x.length 0 lo) := rfl
  refine ⟨fun c hc => ?_, ?_⟩
  · rw [e] at hc
    exact List.mem_of_mem_drop (List.mem_of_mem_take hc)
  · rw [← lenS, ← lenS x, e]
    rw [List.length_take, List.length_drop]
    omega
/-! ### numbers read -/
theorem digitsVal_lt {cs : List Nat} (h : ∀ c ∈ cs, 48 ≤ c ∧ c ≤ 57) : NumText.digitsVal cs < 10 ^ cs.length := by
  have : ∀ (cs : List Nat) (acc : Nat), (∀ c ∈ cs, 48 ≤ c ∧ c ≤ 57) → cs.foldl (fun acc c => acc * 10 + (c - 48)) acc < (acc + 1) * 10 ^ cs.length := by
    intro cs
    induction cs with
    | nil => intro acc _; simp
    | cons c r ih =>
      intro acc h
      have hc := h c List.mem_cons_self
      have := ih (acc * 10 + (c - 48)) fun d hd => h d (List.mem_cons_of_mem _ hd)
      rw [List.foldl_cons, List.length_cons, Nat.pow_succ]
      refine Nat.lt_of_lt_of_le this ?_
      rw [← Nat.mul_assoc, Nat.mul_right_comm]
      exact Nat.mul_le_mul_right _ (by omega)
  have := this cs 0 h
  simpa [NumText.digitsVal] using this
theorem digB_facts {p : Str} (h : digB p = true) : ∃ n : Nat, intText? p = some (n : Int) ∧ val p = n ∧ n < 10 ^ 9 ∧ p.length ≤ 640 := by
  unfold digB at h
  simp only [Bool.and_eq_true, decide_eq_true_eq] at h
  obtain ⟨⟨⟨h1, h9⟩, hd⟩, _⟩ := h
  have hd' : ∀ c ∈ codes p, 48 ≤ c ∧ c ≤ 57 := fun c hc => by
    have := List.all_eq_true.mp hd c hc
    simpa [digC] using this
  have hne : codes p ≠ [] := fun z => by
    have := lenS p
    rw [z] at this
    simp at this
    omega
  have e := PySem.intText_digits (x := p) hd' hne (by omega)
  refine ⟨NumText.digitsVal (codes p), e, by unfold val; rw [e]; rfl, ?_, by omega⟩
  refine Nat.lt_of_lt_of_le (digitsVal_lt hd') ?_
  rw [lenS]
  exact Nat.pow_le_pow_right (by decide) h9
theorem low_ok {a b : Int} (ha : a.natAbs < 10 ^ 9) (h0 : 0 < b) (hb : b.natAbs < 10 ^ 9) : OkF (low a b) ∧ copr (low a b) = true := by
  have hg := gcd_pos' (a := a) h0
  have hgi : (0 : Int) < (Int.gcd a b : Nat) := by omega
  obtain ⟨k, hk⟩ := Int.gcd_dvd_right a b
  obtain ⟨j, hj⟩ := Int.gcd_dvd_left a b
  have e2 : b / (Int.gcd a b : Nat) = k := by
    conv => lhs; lhs; rw [hk]
    exact Int.mul_ediv_cancel_left _ (by omega)
  have e1 : a / (Int.gcd a b : Nat) = j := by
    conv => lhs; lhs; rw [hj]
    exact Int.mul_ediv_cancel_left _ (by omega)
  have k0 : 0 < k := by
    rw [hk] at h0
    exact Int.pos_of_mul_pos_right h0 hgi
  refine ⟨⟨?_, ?_, ?_⟩, ?_⟩
  · show (a / (Int.gcd a b : Nat)).natAbs < 10 ^ 9
    rw [e1]
    refine Nat.lt_of_le_of_lt ?_ ha
    conv => rhs; rw [hj, Int.natAbs_mul]
    exact Nat.le_mul_of_pos_left _ (by simpa using hg)
  · show 0 < b / (Int.gcd a b : Nat)
    rw [e2]; exact k0
  · show (b / (Int.gcd a b : Nat)).natAbs < 10 ^ 9
    rw [e2]
    refine Nat.lt_of_le_of_lt ?_ hb
    conv => rhs; rw [hk, Int.natAbs_mul]
    exact Nat.le_mul_of_pos_left _ (by simpa using hg)
  · unfold copr low
    simp only [beq_iff_eq]
    exact Int.gcd_ediv_gcd_ediv_gcd hg
end K90
set_option Elab.async false
set_option linter.all false
set_option maxRecDepth 100000
set_option autoImplicit false
namespace K90
open PySem PySem.Spec PyProof.Rows L2 DL
theorem body_facts (w : Str) : (∀ c ∈ codes (bodyW w), c ∈ codes w) ∧ (bodyW w).length ≤ w.length := by
  unfold bodyW
  split
  · exact cutS_facts
  · exact ⟨fun c h => h, Nat.le_refl _⟩
theorem slash_ne : codes ("/" : Str) ≠ [] := by decide
theorem slash_k : ("/" : Str).cps.all (· < 256) = true := by decide +kernel
theorem slash_l : (("/" : Str).length == 0) = false := by decide
def dDig : PyData → PyData | .str x => .bool (digB x) | _ => .none
theorem atS {ps : List Str} {i : Nat} (h : i < ps.length) : atI (ps.map PyData.str) (i : Int) = some (.str (ps.getD i "")) := by
  have e : ixN (ps.map PyData.str).length (i : Int) = some i := by unfold ixN; simp; omega
  unfold atI
  rw [e]
  show (ps.map PyData.str)[i]? = _
  rw [List.getElem?_map, List.getD_eq_getElem?_getD, List.getElem?_eq_getElem h]
  rfl
theorem atS_last {ps : List Str} (h : ps ≠ []) : ∃ z, ps.getLast? = some z ∧ atI (ps.map PyData.str) (-1) = some (.str z) := by
  have hl : 0 < ps.length := List.length_pos_iff.mpr h
  refine ⟨ps[ps.length - 1], by rw [List.getLast?_eq_getElem?]; exact List.getElem?_eq_getElem _, ?_⟩
  have e : ixN (ps.map PyData.str).length (-1) = some (ps.length - 1) := by
    unfold ixN
    rw [if_neg (by omega), if_pos (by rw [List.length_map]; omega), List.length_map]
    congr 1
    omega
  unfold atI
  rw [e]
  show (ps.map PyData.str)[ps.length - 1]? = _
  rw [List.getElem?_map, List.getElem?_eq_getElem (by omega)]
  rfl
theorem last_two {ps : List Str} (h : ps.length = 2) : ps.getLast? = some (ps.getD 1 "") := by
  match ps, h with
  | [a, b], _ => rfl
theorem dig_pos {p : Str} (h : digB p = true) (h0 : p ≠ ("0" : Str)) : 0 < val p := by
  obtain ⟨n, e1, e2, _, _⟩ := digB_facts h
  rw [e2]
  unfold digB at h
  simp only [Bool.and_eq_true, Bool.or_eq_true, decide_eq_true_eq] at h
  obtain ⟨⟨⟨h1, h9⟩, hd⟩, h48⟩ := h
  have hd' : ∀ c ∈ codes p, 48 ≤ c ∧ c ≤ 57 := fun c hc => by
    have := List.all_eq_true.mp hd c hc
    simpa [digC] using this
  cases hcs : codes p with
  | nil =>
    have := lenS p
    rw [hcs] at this
    simp at this
    omega
  | cons c r =>
    have hc := hd' c (by rw [hcs]; exact List.mem_cons_self)
    have e3 := PySem.intText_digits (x := p) hd' (by intro z; have z' : codes p = [] := z; rw [z'] at hcs; cases hcs) (by omega)
    rw [e3] at e1
    have e4 : ((NumText.digitsVal (codes p) : Nat) : Int) = n := Option.some.inj e1
    rw [hcs] at e4 h48
    have c49 : 49 ≤ c := by
      rcases h48 with h48 | h48
      · have : c ≠ 48 := fun z => h48 (by rw [z]; rfl)
        omega
      · refine Nat.lt_of_le_of_ne hc.1 fun z => h0 ?_
        have hr : r = [] := by
          have := lenS p
          rw [hcs, h48] at this
          simp at this
          exact this
        subst hr
        have : p = ⟨#[48]⟩ := TL.ext_tl (by show codes p = [48]; rw [hcs, ← z])
        rw [this, s0]
    have := NumText.digitsVal_pos (cs := r) c49
    omega
theorem bad_facts {ps : List Str} (h : bad ps = false) (hne : ps ≠ []) : (ps.length = 1 ∨ ps.length = 2) ∧ (∀ p ∈ ps, digB p = true) ∧ 0 < undr ps ∧ (undr ps).natAbs < 10 ^ 9 ∧ ∃ n : Nat, val (ps.getD 0 "") = n ∧ n < 10 ^ 9 := by
  unfold bad at h
  simp only [Bool.or_eq_false_iff, decide_eq_false_iff_not, Bool.and_eq_false_iff] at h
  obtain ⟨⟨h2, hd⟩, hl⟩ := h
  have hd' : ∀ p ∈ ps, digB p = true := fun p hp => by
    have := List.any_eq_false.mp hd p hp
    simpa using this
  have hlen : 0 < ps.length := List.length_pos_iff.mpr hne
  have m0 : ps.getD 0 "" ∈ ps := by
    rw [List.getD_eq_getElem?_getD, List.getElem?_eq_getElem hlen]
    exact List.getElem_mem hlen
  obtain ⟨n, _, e2, e3, _⟩ := digB_facts (hd' _ m0)
  refine ⟨by omega, hd', ?_, ?_, n, e2, e3⟩
  · unfold undr
    split
    · rename_i h22
      have m1 : ps.getD 1 "" ∈ ps := by
        rw [List.getD_eq_getElem?_getD, List.getElem?_eq_getElem (by omega)]
        exact List.getElem_mem _
      refine dig_pos (hd' _ m1) fun z => ?_
      rcases hl with hl | hl
      · exact hl h22
      · exact hl (by rw [last_two h22, z])
    · decide
  · unfold undr
    split
    · rename_i h22
      have m1 : ps.getD 1 "" ∈ ps := by
        rw [List.getD_eq_getElem?_getD, List.getElem?_eq_getElem (by omega)]
        exact List.getElem_mem _
      obtain ⟨n, _, e2, e3, _⟩ := digB_facts (hd' _ m1)
      rw [e2]
      simpa using e3
    · decide
theorem p_fraction_told (as R) (h : d_fraction_told as R) : as.length = 1 ∧ q_fraction_told { nx := fun ρ => R (.dt .none) (pwOf ρ), rt := fun r ρ => R r (pwOf ρ) } (as ++ List.replicate (N_fraction_told.length - 1) .un) := by
  obtain ⟨w, rfl, hz, hasc, h⟩ := h
  refine ⟨rfl, ?_⟩
  unfold q_fraction_told
  have hs : w.length ≤ sizeLine := Nat.le_trans hz sz
  obtain ⟨b1, b2⟩ := body_facts w
  obtain ⟨f1, f2, f3⟩ := split_facts (x := bodyW w) slash_ne slash_k
  have l1 : (bodyW w).length + 2 ≤ sizeLine := by
    have : 200000 + 2 ≤ sizeLine := by decide
    omega
  -- parts
  refine seq_i (fun ρ' => ρ' = [.dt (.str w), .dt (.list ((Txt.split (bodyW w) "/").map .str)), .un, .un, .un]) (fun K hK => ?_) ?_
  · simp [qVar_, qC, q2, q1, qTest_, qChain_, qAnd, qOr, qNot, qAndV_, qOrV_, qNotV_, qIf, qNil, qCons, qTup, qLst, qCB, qNext, qSeq, qRet, qRetN, qRetO_, qIfS, qAsg, qAsgO_, qPar, qParO_, qPar3, qPar3O_, qFrz_, qApN_, qStN_, qIxO_, qLend, qLendT, qNoPart, qPart_, qSl, qRevL_, qIsi_, qSplit_, qJoin_, qBits_, qIL_, qIT, qR1_, qR2_, qIS_, qIE_, qgN, qgNil, qgCons_, qgT_, qFor, qLc, qYes, qCall, qCallO_, kAdd, kI0_, kI_, kMul, kB0_, kEq, kNe, kIsN, kNotN, kIn, kNin, kLen_l, kLen_t, kLen_s, kAbs_, kMax2_, kInt_i, kInt_s, kStr_, kSum, kAll_, kAny_, kNeg_, dat_dt, dat_ow, dat_pw, toDt_dt, toDt_ow, toDt_pw, toDt_un, okSlot_dt, okSlot_ow, okSlot_un, okP_dt, okP_un, ownOf_ow, ownOf_pw, isN_n, isN_b, isN_i, isN_s, isN_l, isN_t, flatD_n, flatD_b, flatD_i, flatD_s, setOwn, ixq_l_, ixq_t_, ixq_s_, slq_l, slq_s, eqq_ii, eqq_ss, eqq_ll, eqq_tt, inn_l, inn_s, wipeR, freeV, mTup_t, mBool_b, mBoolS_b, mInt_i, mStr_s, mLst_l, mOpt_s, mOw_o, mOwn_o, mI1_i, mI2_i, mL1_l, hs]
    by_cases hn : neg w = true
    · have hb : bodyW w = cutS w (some 1) none := by unfold bodyW; rw [if_pos hn]
      have hn' : cutS w none (some 1) = "-" := by simpa [neg] using hn
      rw [if_pos hn']
      rw [hb] at l1 hK
      exact ⟨by decide, l1, hK _ rfl⟩
    · have hb : bodyW w = w := by unfold bodyW; rw [if_neg hn]
      have hn' : ¬ cutS w none (some 1) = "-" := by simpa [neg] using hn
      rw [if_neg hn']
      rw [hb] at l1 hK
      exact ⟨by decide, l1, hK _ rfl⟩
  rintro _ rfl
  have pd : ∀ p ∈ Txt.split (bodyW w) "/", p.length ≤ 200000 ∧ ∀ c ∈ codes p, c < 1114112 := fun p hp => ⟨Nat.le_trans (f1 p hp).2 (Nat.le_trans b2 hz), fun c hc => hasc c (b1 c ((f1 p hp).1 c hc))⟩
  have hft : ft w = if bad (Txt.split (bodyW w) "/") = true then none else if fw (low (topp w (Txt.split (bodyW w) "/")) (undr (Txt.split (bodyW w) "/"))) = w then some (low (topp w (Txt.split (bodyW w) "/")) (undr (Txt.split (bodyW w) "/"))) else none := rfl
  have hpl : (Txt.split (bodyW w) ("/" : Str)).length ≤ sizeLine := by omega
  revert hft pd f3 hpl
  generalize Txt.split (bodyW w) ("/" : Str) = ps
  intro f3 pd hft hpl
  refine seq_i (fun ρ' => bad ps = false ∧ ρ' = [.dt (.str w), .dt (.list (ps.map .str)), .un, .un, .un]) (fun K hK => ?_) ?_
  · refine ifs_i (fun b ρ' => b = bad ps ∧ ρ' = [.dt (.str w), .dt (.list (ps.map .str)), .un, .un, .un]) (fun K hK => ?_) ?_ ?_
    · simp [qVar_, qC, q2, q1, qTest_, qChain_, qAnd, qOr, qNot, qAndV_, qOrV_, qNotV_, qIf, qNil, qCons, qTup, qLst, qCB, qNext, qSeq, qRet, qRetN, qRetO_, qIfS, qAsg, qAsgO_, qPar, qParO_, qPar3, qPar3O_, qFrz_, qApN_, qStN_, qIxO_, qLend, qLendT, qNoPart, qPart_, qSl, qRevL_, qIsi_, qSplit_, qJoin_, qBits_, qIL_, qIT, qR1_, qR2_, qIS_, qIE_, qgN, qgNil, qgCons_, qgT_, qFor, qLc, qYes, qCall, qCallO_, kAdd, kI0_, kI_, kMul, kB0_, kEq, kNe, kIsN, kNotN, kIn, kNin, kLen_l, kLen_t, kLen_s, kAbs_, kMax2_, kInt_i, kInt_s, kStr_, kSum, kAll_, kAny_, kNeg_, dat_dt, dat_ow, dat_pw, toDt_dt, toDt_ow, toDt_pw, toDt_un, okSlot_dt, okSlot_ow, okSlot_un, okP_dt, okP_un, ownOf_ow, ownOf_pw, isN_n, isN_b, isN_i, isN_s, isN_l, isN_t, flatD_n, flatD_b, flatD_i, flatD_s, setOwn, ixq_l_, ixq_t_, ixq_s_, slq_l, slq_s, eqq_ii, eqq_ss, eqq_ll, eqq_tt, inn_l, inn_s, wipeR, freeV, mTup_t, mBool_b, mBoolS_b, mInt_i, mStr_s, mLst_l, mOpt_s, mOw_o, mOwn_o, mI1_i, mI2_i, mL1_l]
      by_cases h2 : 2 < ps.length
      · have h2' : (2 : Int) < ps.length := by omega
        simp [h2']
        exact hK _ _ ⟨by simp [bad, h2], rfl⟩
      · have h2' : ¬ (2 : Int) < ps.length := by omega
        simp [h2']
        refine lc_map rfl (by simpa using hpl) rfl dDig ?_ ?_
        · intro d hd Y hY
          obtain ⟨p, hp, rfl⟩ := List.mem_map.mp hd
          simp [qVar_, qC, q2, q1, qTest_, qChain_, qAnd, qOr, qNot, qAndV_, qOrV_, qNotV_, qIf, qNil, qCons, qTup, qLst, qCB, qNext, qSeq, qRet, qRetN, qRetO_, qIfS, qAsg, qAsgO_, qPar, qParO_, qPar3, qPar3O_, qFrz_, qApN_, qStN_, qIxO_, qLend, qLendT, qNoPart, qPart_, qSl, qRevL_, qIsi_, qSplit_, qJoin_, qBits_, qIL_, qIT, qR1_, qR2_, qIS_, qIE_, qgN, qgNil, qgCons_, qgT_, qFor, qLc, qYes, qCall, qCallO_, kAdd, kI0_, kI_, kMul, kB0_, kEq, kNe, kIsN, kNotN, kIn, kNin, kLen_l, kLen_t, kLen_s, kAbs_, kMax2_, kInt_i, kInt_s, kStr_, kSum, kAll_, kAny_, kNeg_, dat_dt, dat_ow, dat_pw, toDt_dt, toDt_ow, toDt_pw, toDt_un, okSlot_dt, okSlot_ow, okSlot_un, okP_dt, okP_un, ownOf_ow, ownOf_pw, isN_n, isN_b, isN_i, isN_s, isN_l, isN_t, flatD_n, flatD_b, flatD_i, flatD_s, setOwn, ixq_l_, ixq_t_, ixq_s_, slq_l, slq_s, eqq_ii, eqq_ss, eqq_ll, eqq_tt, inn_l, inn_s, wipeR, freeV, mTup_t, mBool_b, mBoolS_b, mInt_i, mStr_s, mLst_l, mOpt_s, mOw_o, mOwn_o, mI1_i, mI2_i, mL1_l]
          exact ⟨p, rfl, (pd p hp).1, (pd p hp).2, fun ys => hY⟩
        · simp [qVar_, qC, q2, q1, qTest_, qChain_, qAnd, qOr, qNot, qAndV_, qOrV_, qNotV_, qIf, qNil, qCons, qTup, qLst, qCB, qNext, qSeq, qRet, qRetN, qRetO_, qIfS, qAsg, qAsgO_, qPar, qParO_, qPar3, qPar3O_, qFrz_, qApN_, qStN_, qIxO_, qLend, qLendT, qNoPart, qPart_, qSl, qRevL_, qIsi_, qSplit_, qJoin_, qBits_, qIL_, qIT, qR1_, qR2_, qIS_, qIE_, qgN, qgNil, qgCons_, qgT_, qFor, qLc, qYes, qCall, qCallO_, kAdd, kI0_, kI_, kMul, kB0_, kEq, kNe, kIsN, kNotN, kIn, kNin, kLen_l, kLen_t, kLen_s, kAbs_, kMax2_, kInt_i, kInt_s, kStr_, kSum, kAll_, kAny_, kNeg_, dat_dt, dat_ow, dat_pw, toDt_dt, toDt_ow, toDt_pw, toDt_un, okSlot_dt, okSlot_ow, okSlot_un, okP_dt, okP_un, ownOf_ow, ownOf_pw, isN_n, isN_b, isN_i, isN_s, isN_l, isN_t, flatD_n, flatD_b, flatD_i, flatD_s, setOwn, ixq_l_, ixq_t_, ixq_s_, slq_l, slq_s, eqq_ii, eqq_ss, eqq_ll, eqq_tt, inn_l, inn_s, wipeR, freeV, mTup_t, mBool_b, mBoolS_b, mInt_i, mStr_s, mLst_l, mOpt_s, mOw_o, mOwn_o, mI1_i, mI2_i, mL1_l]
          refine ⟨ps.map digB, by simp [dDig, Function.comp_def], ?_⟩
          rw [allB_map]
          by_cases ha : ps.all digB = true
          · have hany : ps.any (fun p => !digB p) = false := by
              rw [List.any_eq_false]
              intro p hp
              simp [List.all_eq_true.mp ha p hp]
            rw [if_pos ha]
            obtain ⟨z, hz1, hz2⟩ := atS_last f3
            simp only [dat_dt, hz2, mOpt_s, eqq_ss, mBool_b]
            by_cases h0 : z = ("0" : Str)
            · simp [h0]
              by_cases hl : ps.length = 2
              · have hl' : (ps.length : Int) = 2 := by omega
                simp [hl']
                exact hK _ _ ⟨by simp [bad, hl, hz1, h0], rfl⟩
              · have hl' : ¬ (ps.length : Int) = 2 := by omega
                simp [hl']
                exact hK _ _ ⟨by simp [bad, hl, h2, hany], rfl⟩
            · simp [h0]
              exact hK _ _ ⟨by simp [bad, hz1, h2, h0]; simpa using ha, rfl⟩
          · rw [if_neg ha]
            refine hK _ _ ⟨?_, rfl⟩
            have : ps.any (fun p => !digB p) = true := by
              cases hq : ps.any (fun p => !digB p)
              · exfalso
                apply ha
                rw [List.all_eq_true]
                intro p hp
                have := List.any_eq_false.mp hq p hp
                simpa using this
              · rfl
            unfold bad
            rw [this]
            simp
    · rintro _ ⟨hb, rfl⟩
      simp [qVar_, qC, q2, q1, qTest_, qChain_, qAnd, qOr, qNot, qAndV_, qOrV_, qNotV_, qIf, qNil, qCons, qTup, qLst, qCB, qNext, qSeq, qRet, qRetN, qRetO_, qIfS, qAsg, qAsgO_, qPar, qParO_, qPar3, qPar3O_, qFrz_, qApN_, qStN_, qIxO_, qLend, qLendT, qNoPart, qPart_, qSl, qRevL_, qIsi_, qSplit_, qJoin_, qBits_, qIL_, qIT, qR1_, qR2_, qIS_, qIE_, qgN, qgNil, qgCons_, qgT_, qFor, qLc, qYes, qCall, qCallO_, kAdd, kI0_, kI_, kMul, kB0_, kEq, kNe, kIsN, kNotN, kIn, kNin, kLen_l, kLen_t, kLen_s, kAbs_, kMax2_, kInt_i, kInt_s, kStr_, kSum, kAll_, kAny_, kNeg_, dat_dt, dat_ow, dat_pw, toDt_dt, toDt_ow, toDt_pw, toDt_un, okSlot_dt, okSlot_ow, okSlot_un, okP_dt, okP_un, ownOf_ow, ownOf_pw, isN_n, isN_b, isN_i, isN_s, isN_l, isN_t, flatD_n, flatD_b, flatD_i, flatD_s, setOwn, ixq_l_, ixq_t_, ixq_s_, slq_l, slq_s, eqq_ii, eqq_ss, eqq_ll, eqq_tt, inn_l, inn_s, wipeR, freeV, mTup_t, mBool_b, mBoolS_b, mInt_i, mStr_s, mLst_l, mOpt_s, mOw_o, mOwn_o, mI1_i, mI2_i, mL1_l]
      exact h.at (by rw [hft, if_pos hb.symm]; rfl)
    · rintro _ ⟨hb, rfl⟩
      exact hK _ ⟨hb.symm, rfl⟩
  · rintro _ ⟨hb, rfl⟩
    obtain ⟨hlen, hd, hu, hub, n, hn, hnb⟩ := bad_facts hb f3
    have hl0 : 0 < ps.length := List.length_pos_iff.mpr f3
    have m0 : ps.getD 0 "" ∈ ps := by
      rw [List.getD_eq_getElem?_getD, List.getElem?_eq_getElem hl0]
      exact List.getElem_mem hl0
    have a0 : atI (ps.map PyData.str) 0 = some (.str (ps.getD 0 "")) := atS hl0
    obtain ⟨n0, i0, v0, nb0, g0⟩ := digB_facts (hd _ m0)
    refine seq_i (fun ρ' => ρ' = [.dt (.str w), .dt (.list (ps.map .str)), .dt (.int (undr ps)), .un, .un]) (fun K hK => ?_) ?_
    · simp [qVar_, qC, q2, q1, qTest_, qChain_, qAnd, qOr, qNot, qAndV_, qOrV_, qNotV_, qIf, qNil, qCons, qTup, qLst, qCB, qNext, qSeq, qRet, qRetN, qRetO_, qIfS, qAsg, qAsgO_, qPar, qParO_, qPar3, qPar3O_, qFrz_, qApN_, qStN_, qIxO_, qLend, qLendT, qNoPart, qPart_, qSl, qRevL_, qIsi_, qSplit_, qJoin_, qBits_, qIL_, qIT, qR1_, qR2_, qIS_, qIE_, qgN, qgNil, qgCons_, qgT_, qFor, qLc, qYes, qCall, qCallO_, kAdd, kI0_, kI_, kMul, kB0_, kEq, kNe, kIsN, kNotN, kIn, kNin, kLen_l, kLen_t, kLen_s, kAbs_, kMax2_, kInt_i, kInt_s, kStr_, kSum, kAll_, kAny_, kNeg_, dat_dt, dat_ow, dat_pw, toDt_dt, toDt_ow, toDt_pw, toDt_un, okSlot_dt, okSlot_ow, okSlot_un, okP_dt, okP_un, ownOf_ow, ownOf_pw, isN_n, isN_b, isN_i, isN_s, isN_l, isN_t, flatD_n, flatD_b, flatD_i, flatD_s, setOwn, ixq_l_, ixq_t_, ixq_s_, slq_l, slq_s, eqq_ii, eqq_ss, eqq_ll, eqq_tt, inn_l, inn_s, wipeR, freeV, mTup_t, mBool_b, mBoolS_b, mInt_i, mStr_s, mLst_l, mOpt_s, mOw_o, mOwn_o, mI1_i, mI2_i, mL1_l]
      by_cases hl : ps.length = 2
      · have hl' : (ps.length : Int) = 2 := by omega
        have m1 : ps.getD 1 "" ∈ ps := by
          rw [List.getD_eq_getElem?_getD, List.getElem?_eq_getElem (by omega)]
          exact List.getElem_mem _
        obtain ⟨n1, i1, v1, _, g1⟩ := digB_facts (hd _ m1)
        have a1 : atI (ps.map PyData.str) 1 = some (.str (ps.getD 1 "")) := atS (i := 1) (by omega)
        rw [if_pos hl', a1]
        simp only [dat_dt, mOpt_s, kInt_s, i1]
        refine ⟨g1, hK _ ?_⟩
        unfold undr
        rw [if_pos hl, v1]
      · have hl' : ¬ (ps.length : Int) = 2 := by omega
        rw [if_neg hl']
        refine hK _ ?_
        unfold undr
        rw [if_neg hl]
    rintro _ rfl
    have tb : (topp w ps).natAbs < 10 ^ 9 := by
      unfold topp
      rw [hn]
      split <;> simpa using hnb
    have lo := low_ok tb hu hub
    refine seq_i (fun ρ' => ρ' = [.dt (.str w), .dt (.list (ps.map .str)), .dt (.int (undr ps)), .dt (frD (low (topp w ps) (undr ps))), .un]) (fun K hK => ?_) ?_
    · simp [qVar_, qC, q2, q1, qTest_, qChain_, qAnd, qOr, qNot, qAndV_, qOrV_, qNotV_, qIf, qNil, qCons, qTup, qLst, qCB, qNext, qSeq, qRet, qRetN, qRetO_, qIfS, qAsg, qAsgO_, qPar, qParO_, qPar3, qPar3O_, qFrz_, qApN_, qStN_, qIxO_, qLend, qLendT, qNoPart, qPart_, qSl, qRevL_, qIsi_, qSplit_, qJoin_, qBits_, qIL_, qIT, qR1_, qR2_, qIS_, qIE_, qgN, qgNil, qgCons_, qgT_, qFor, qLc, qYes, qCall, qCallO_, kAdd, kI0_, kI_, kMul, kB0_, kEq, kNe, kIsN, kNotN, kIn, kNin, kLen_l, kLen_t, kLen_s, kAbs_, kMax2_, kInt_i, kInt_s, kStr_, kSum, kAll_, kAny_, kNeg_, dat_dt, dat_ow, dat_pw, toDt_dt, toDt_ow, toDt_pw, toDt_un, okSlot_dt, okSlot_ow, okSlot_un, okP_dt, okP_un, ownOf_ow, ownOf_pw, isN_n, isN_b, isN_i, isN_s, isN_l, isN_t, flatD_n, flatD_b, flatD_i, flatD_s, setOwn, ixq_l_, ixq_t_, ixq_s_, slq_l, slq_s, eqq_ii, eqq_ss, eqq_ll, eqq_tt, inn_l, inn_s, wipeR, freeV, mTup_t, mBool_b, mBoolS_b, mInt_i, mStr_s, mLst_l, mOpt_s, mOw_o, mOwn_o, mI1_i, mI2_i, mL1_l, hs]
      by_cases hn' : neg w = true
      · have hn2 : cutS w none (some 1) = "-" := by simpa [neg] using hn'
        rw [if_pos hn2, a0]
        simp only [dat_dt, mOpt_s, kInt_s, i0]
        refine ⟨g0, ?_⟩
        refine ⟨-n0, undr ps, rfl, hu, ten9 (by simpa using nb0), ten9 hub, fun ys => ?_⟩
        simp only [dat_dt]
        refine hK _ ?_
        unfold topp
        rw [if_pos hn', v0]
      · have hn2 : ¬ cutS w none (some 1) = "-" := by simpa [neg] using hn'
        rw [if_neg hn2, a0]
        simp only [dat_dt, mOpt_s, kInt_s, i0]
        refine ⟨g0, ?_⟩
        refine ⟨n0, undr ps, rfl, hu, ten9 (by simpa using nb0), ten9 hub, fun ys => ?_⟩
        simp only [dat_dt]
        refine hK _ ?_
        unfold topp
        rw [if_neg hn', v0]
    rintro _ rfl
    have hft2 : ft w = if fw (low (topp w ps) (undr ps)) = w then some (low (topp w ps) (undr ps)) else none := by rw [hft, if_neg (by rw [hb]; decide)]
    revert hft2 lo
    generalize low (topp w ps) (undr ps) = f
    intro lo hft2
    simp [qVar_, qC, q2, q1, qTest_, qChain_, qAnd, qOr, qNot, qAndV_, qOrV_, qNotV_, qIf, qNil, qCons, qTup, qLst, qCB, qNext, qSeq, qRet, qRetN, qRetO_, qIfS, qAsg, qAsgO_, qPar, qParO_, qPar3, qPar3O_, qFrz_, qApN_, qStN_, qIxO_, qLend, qLendT, qNoPart, qPart_, qSl, qRevL_, qIsi_, qSplit_, qJoin_, qBits_, qIL_, qIT, qR1_, qR2_, qIS_, qIE_, qgN, qgNil, qgCons_, qgT_, qFor, qLc, qYes, qCall, qCallO_, kAdd, kI0_, kI_, kMul, kB0_, kEq, kNe, kIsN, kNotN, kIn, kNin, kLen_l, kLen_t, kLen_s, kAbs_, kMax2_, kInt_i, kInt_s, kStr_, kSum, kAll_, kAny_, kNeg_, dat_dt, dat_ow, dat_pw, toDt_dt, toDt_ow, toDt_pw, toDt_un, okSlot_dt, okSlot_ow, okSlot_un, okP_dt, okP_un, ownOf_ow, ownOf_pw, isN_n, isN_b, isN_i, isN_s, isN_l, isN_t, flatD_n, flatD_b, flatD_i, flatD_s, setOwn, ixq_l_, ixq_t_, ixq_s_, slq_l, slq_s, eqq_ii, eqq_ss, eqq_ll, eqq_tt, inn_l, inn_s, wipeR, freeV, mTup_t, mBool_b, mBoolS_b, mInt_i, mStr_s, mLst_l, mOpt_s, mOw_o, mOwn_o, mI1_i, mI2_i, mL1_l]
    refine ⟨f, rfl, Nat.lt_trans lo.1.1 (by decide), Nat.lt_trans lo.1.2.2 (by decide), fun ys => ?_⟩
    simp only [SD.dat, eqq_ss, mBool_b]
    by_cases he : fw f = w
    · simp [he]
      exact h.at (by rw [hft2, if_pos he]; rfl)
    · simp [he]
      exact h.at (by rw [hft2, if_neg he]; rfl)
end K90
set_option Elab.async false
set_option linter.all false
set_option maxRecDepth 100000
set_option autoImplicit false
namespace K90
open PySem PySem.Spec PyProof.Rows L2 DL
theorem not_all_dig {ps : List Str} : ps.any (fun p => !digB p) = !ps.all digB := by
  induction ps with
  | nil => rfl
  | cons p r ih => simp [ih, Bool.not_and]
theorem shq_strs {ps : List Str} (h : ∀ p ∈ ps, ∀ c ∈ codes p, c < 1114112) {n : Nat} : ∀ d ∈ ps.map PyData.str, shq n d := fun d hd => by
  obtain ⟨p, hp, rfl⟩ := List.mem_map.mp hd
  refine shq_str ?_
  have : PyData.strOk p = true := by
    unfold PyData.strOk
    rw [← Array.all_toList, List.all_eq_true]
    intro c hc
    have := h p hp c hc
    exact decide_eq_true (by omega)
  simpa [PyData.canLay0] using this
theorem dig_none : ∀ ps : List Str, ((ps.map PyData.str).filter fun d => match dDig d with | .bool b => !b | _ => false).isEmpty = ps.all digB
  | [] => rfl
  | c :: r => by
    have ih := dig_none r
    by_cases hc : digB c = true
    · simp only [List.map_cons, List.filter_cons, dDig, hc, List.all_cons, Bool.true_and] at ih ⊢
      exact ih
    · simp [List.filter_cons, dDig, hc]
theorem p__law_number (as R) (h : d__law_number as R) : as.length = 1 ∧ q__law_number { nx := fun ρ => R (.dt .none) (pwOf ρ), rt := fun r ρ => R r (pwOf ρ) } (as ++ List.replicate (N__law_number.length - 1) .un) := by
  obtain ⟨w, rfl, hz, hasc, h⟩ := h
  refine ⟨rfl, ?_⟩
  unfold q__law_number
  have hs : w.length ≤ sizeLine := Nat.le_trans hz sz
  obtain ⟨b1, b2⟩ := body_facts w
  obtain ⟨f1, f2, f3⟩ := split_facts (x := bodyW w) slash_ne slash_k
  have l1 : (bodyW w).length + 2 ≤ sizeLine := by
    have : 200000 + 2 ≤ sizeLine := by decide
    omega
  refine seq_i (fun ρ' => ρ' = [.dt (.str w), .dt (.list ((Txt.split (bodyW w) "/").map .str)), .un, .un, .un, .un]) (fun K hK => ?_) ?_
  · simp [qVar_, qC, q2, q1, qTest_, qChain_, qAnd, qOr, qNot, qAndV_, qOrV_, qNotV_, qIf, qNil, qCons, qTup, qLst, qCB, qNext, qSeq, qRet, qRetN, qRetO_, qIfS, qAsg, qAsgO_, qPar, qParO_, qPar3, qPar3O_, qFrz_, qApN_, qStN_, qIxO_, qLend, qLendT, qNoPart, qPart_, qSl, qRevL_, qIsi_, qSplit_, qJoin_, qBits_, qIL_, qIT, qR1_, qR2_, qIS_, qIE_, qgN, qgNil, qgCons_, qgT_, qFor, qLc, qYes, qCall, qCallO_, kAdd, kI0_, kI_, kMul, kB0_, kEq, kNe, kIsN, kNotN, kIn, kNin, kLen_l, kLen_t, kLen_s, kAbs_, kMax2_, kInt_i, kInt_s, kStr_, kSum, kAll_, kAny_, kNeg_, dat_dt, dat_ow, dat_pw, toDt_dt, toDt_ow, toDt_pw, toDt_un, okSlot_dt, okSlot_ow, okSlot_un, okP_dt, okP_un, ownOf_ow, ownOf_pw, isN_n, isN_b, isN_i, isN_s, isN_l, isN_t, flatD_n, flatD_b, flatD_i, flatD_s, setOwn, ixq_l_, ixq_t_, ixq_s_, slq_l, slq_s, eqq_ii, eqq_ss, eqq_ll, eqq_tt, inn_l, inn_s, wipeR, freeV, mTup_t, mBool_b, mBoolS_b, mInt_i, mStr_s, mLst_l, mOpt_s, mOw_o, mOwn_o, mI1_i, mI2_i, mL1_l, hs]
    by_cases hn : neg w = true
    · have hb : bodyW w = cutS w (some 1) none := by unfold bodyW; rw [if_pos hn]
      have hn' : cutS w none (some 1) = "-" := by simpa [neg] using hn
      rw [if_pos hn']
      rw [hb] at l1 hK
      exact ⟨by decide, l1, hK _ rfl⟩
    · have hb : bodyW w = w := by unfold bodyW; rw [if_neg hn]
      have hn' : ¬ cutS w none (some 1) = "-" := by simpa [neg] using hn
      rw [if_neg hn']
      rw [hb] at l1 hK
      exact ⟨by decide, l1, hK _ rfl⟩
  rintro _ rfl
  have pd : ∀ p ∈ Txt.split (bodyW w) "/", p.length ≤ 200000 ∧ ∀ c ∈ codes p, c < 1114112 := fun p hp => ⟨Nat.le_trans (f1 p hp).2 (Nat.le_trans b2 hz), fun c hc => hasc c (b1 c ((f1 p hp).1 c hc))⟩
  have hft : ft w = if bad (Txt.split (bodyW w) "/") = true then none else if fw (low (topp w (Txt.split (bodyW w) "/")) (undr (Txt.split (bodyW w) "/"))) = w then some (low (topp w (Txt.split (bodyW w) "/")) (undr (Txt.split (bodyW w) "/"))) else none := rfl
  have hpl : (Txt.split (bodyW w) ("/" : Str)).length ≤ sizeLine := by omega
  revert hft pd f3 hpl
  generalize Txt.split (bodyW w) ("/" : Str) = ps
  intro f3 pd hft hpl
  refine seq_i (fun ρ' => bad ps = false ∧ ρ' = [.dt (.str w), .dt (.list (ps.map .str)), .un, .un, .un, .un]) (fun K hK => ?_) ?_
  · refine ifs_i (fun b ρ' => b = bad ps ∧ ρ' = [.dt (.str w), .dt (.list (ps.map .str)), .un, .un, .un, .un]) (fun K hK => ?_) ?_ ?_
    · simp [qVar_, qC, q2, q1, qTest_, qChain_, qAnd, qOr, qNot, qAndV_, qOrV_, qNotV_, qIf, qNil, qCons, qTup, qLst, qCB, qNext, qSeq, qRet, qRetN, qRetO_, qIfS, qAsg, qAsgO_, qPar, qParO_, qPar3, qPar3O_, qFrz_, qApN_, qStN_, qIxO_, qLend, qLendT, qNoPart, qPart_, qSl, qRevL_, qIsi_, qSplit_, qJoin_, qBits_, qIL_, qIT, qR1_, qR2_, qIS_, qIE_, qgN, qgNil, qgCons_, qgT_, qFor, qLc, qYes, qCall, qCallO_, kAdd, kI0_, kI_, kMul, kB0_, kEq, kNe, kIsN, kNotN, kIn, kNin, kLen_l, kLen_t, kLen_s, kAbs_, kMax2_, kInt_i, kInt_s, kStr_, kSum, kAll_, kAny_, kNeg_, dat_dt, dat_ow, dat_pw, toDt_dt, toDt_ow, toDt_pw, toDt_un, okSlot_dt, okSlot_ow, okSlot_un, okP_dt, okP_un, ownOf_ow, ownOf_pw, isN_n, isN_b, isN_i, isN_s, isN_l, isN_t, flatD_n, flatD_b, flatD_i, flatD_s, setOwn, ixq_l_, ixq_t_, ixq_s_, slq_l, slq_s, eqq_ii, eqq_ss, eqq_ll, eqq_tt, inn_l, inn_s, wipeR, freeV, mTup_t, mBool_b, mBoolS_b, mInt_i, mStr_s, mLst_l, mOpt_s, mOw_o, mOwn_o, mI1_i, mI2_i, mL1_l]
      by_cases h2 : 2 < ps.length
      · have h2' : (2 : Int) < ps.length := by omega
        simp [h2']
        exact hK _ _ ⟨by simp [bad, h2], rfl⟩
      · have h2' : ¬ (2 : Int) < ps.length := by omega
        simp [h2']
        refine lc_filter rfl (by simpa using hpl) rfl (fun d => match dDig d with | .bool b => !b | _ => false) id ?_ ?_
        · intro d hd Y N hY hN
          obtain ⟨p, hp, rfl⟩ := List.mem_map.mp hd
          simp [qVar_, qC, q2, q1, qTest_, qChain_, qAnd, qOr, qNot, qAndV_, qOrV_, qNotV_, qIf, qNil, qCons, qTup, qLst, qCB, qNext, qSeq, qRet, qRetN, qRetO_, qIfS, qAsg, qAsgO_, qPar, qParO_, qPar3, qPar3O_, qFrz_, qApN_, qStN_, qIxO_, qLend, qLendT, qNoPart, qPart_, qSl, qRevL_, qIsi_, qSplit_, qJoin_, qBits_, qIL_, qIT, qR1_, qR2_, qIS_, qIE_, qgN, qgNil, qgCons_, qgT_, qFor, qLc, qYes, qCall, qCallO_, kAdd, kI0_, kI_, kMul, kB0_, kEq, kNe, kIsN, kNotN, kIn, kNin, kLen_l, kLen_t, kLen_s, kAbs_, kMax2_, kInt_i, kInt_s, kStr_, kSum, kAll_, kAny_, kNeg_, dat_dt, dat_ow, dat_pw, toDt_dt, toDt_ow, toDt_pw, toDt_un, okSlot_dt, okSlot_ow, okSlot_un, okP_dt, okP_un, ownOf_ow, ownOf_pw, isN_n, isN_b, isN_i, isN_s, isN_l, isN_t, flatD_n, flatD_b, flatD_i, flatD_s, setOwn, ixq_l_, ixq_t_, ixq_s_, slq_l, slq_s, eqq_ii, eqq_ss, eqq_ll, eqq_tt, inn_l, inn_s, wipeR, freeV, mTup_t, mBool_b, mBoolS_b, mInt_i, mStr_s, mLst_l, mOpt_s, mOw_o, mOwn_o, mI1_i, mI2_i, mL1_l]
          refine ⟨p, rfl, (pd p hp).1, (pd p hp).2, fun ys => ?_⟩
          simp only [SD.dat, mBool_b]
          by_cases hq : digB p = true
          · simp [hq]
            exact hN (by simp [dDig, hq])
          · simp [hq]
            exact hY (by simp [dDig, hq])
        · have hsh : SeqAt.shaped (.list (((ps.map PyData.str).filter fun d => match dDig d with | .bool b => !b | _ => false))) = true := (shq_list (n := 0) fun x hx => shq_strs (fun p hp => (pd p hp).2) x (List.mem_filter.mp hx).1).ok
          have hem : ((ps.map PyData.str).filter fun d => match dDig d with | .bool b => !b | _ => false).isEmpty = ps.all digB := by
            exact dig_none ps
          simp [qVar_, qC, q2, q1, qTest_, qChain_, qAnd, qOr, qNot, qAndV_, qOrV_, qNotV_, qIf, qNil, qCons, qTup, qLst, qCB, qNext, qSeq, qRet, qRetN, qRetO_, qIfS, qAsg, qAsgO_, qPar, qParO_, qPar3, qPar3O_, qFrz_, qApN_, qStN_, qIxO_, qLend, qLendT, qNoPart, qPart_, qSl, qRevL_, qIsi_, qSplit_, qJoin_, qBits_, qIL_, qIT, qR1_, qR2_, qIS_, qIE_, qgN, qgNil, qgCons_, qgT_, qFor, qLc, qYes, qCall, qCallO_, kAdd, kI0_, kI_, kMul, kB0_, kEq, kNe, kIsN, kNotN, kIn, kNin, kLen_l, kLen_t, kLen_s, kAbs_, kMax2_, kInt_i, kInt_s, kStr_, kSum, kAll_, kAny_, kNeg_, dat_dt, dat_ow, dat_pw, toDt_dt, toDt_ow, toDt_pw, toDt_un, okSlot_dt, okSlot_ow, okSlot_un, okP_dt, okP_un, ownOf_ow, ownOf_pw, isN_n, isN_b, isN_i, isN_s, isN_l, isN_t, flatD_n, flatD_b, flatD_i, flatD_s, setOwn, ixq_l_, ixq_t_, ixq_s_, slq_l, slq_s, eqq_ii, eqq_ss, eqq_ll, eqq_tt, inn_l, inn_s, wipeR, freeV, mTup_t, mBool_b, mBoolS_b, mInt_i, mStr_s, mLst_l, mOpt_s, mOw_o, mOwn_o, mI1_i, mI2_i, mL1_l]
          refine ⟨hsh, shaped_nil, ?_⟩
          rw [eqv_nil, hem]
          by_cases ha : ps.all digB = true
          · have hany : ps.any (fun p => !digB p) = false := by rw [not_all_dig, ha]; rfl
            rw [ha]
            simp
            by_cases hl : ps.length = 2
            · have hl' : (ps.length : Int) = 2 := by omega
              have a1 : atI (ps.map PyData.str) 1 = some (.str (ps.getD 1 "")) := atS (i := 1) (by omega)
              have hlast := last_two hl
              rw [if_pos hl', a1]
              simp only [dat_dt, mOpt_s, eqq_ss, mBool_b]
              by_cases h0 : ps.getD 1 "" = ("0" : Str)
              · rw [show decide (ps.getD 1 "" = ("0" : Str)) = true from decide_eq_true h0]
                exact hK _ _ ⟨by rw [h0] at hlast; unfold bad; rw [hlast, hl]; simp, rfl⟩
              · rw [show decide (ps.getD 1 "" = ("0" : Str)) = false from decide_eq_false h0]
                exact hK _ _ ⟨by unfold bad; rw [hlast, hl, hany, decide_eq_false (p := some (ps.getD 1 "") = some ("0" : Str)) fun z => h0 (Option.some.inj z)]; rfl, rfl⟩
            · have hl' : ¬ (ps.length : Int) = 2 := by omega
              rw [if_neg hl']
              exact hK _ _ ⟨by simp [bad, hl, h2, hany], rfl⟩
          · have ha' : ps.all digB = false := by simpa using ha
            rw [ha']
            simp
            refine hK _ _ ⟨?_, rfl⟩
            unfold bad
            rw [not_all_dig, ha']
            simp
    · rintro _ ⟨hb, rfl⟩
      simp [qVar_, qC, q2, q1, qTest_, qChain_, qAnd, qOr, qNot, qAndV_, qOrV_, qNotV_, qIf, qNil, qCons, qTup, qLst, qCB, qNext, qSeq, qRet, qRetN, qRetO_, qIfS, qAsg, qAsgO_, qPar, qParO_, qPar3, qPar3O_, qFrz_, qApN_, qStN_, qIxO_, qLend, qLendT, qNoPart, qPart_, qSl, qRevL_, qIsi_, qSplit_, qJoin_, qBits_, qIL_, qIT, qR1_, qR2_, qIS_, qIE_, qgN, qgNil, qgCons_, qgT_, qFor, qLc, qYes, qCall, qCallO_, kAdd, kI0_, kI_, kMul, kB0_, kEq, kNe, kIsN, kNotN, kIn, kNin, kLen_l, kLen_t, kLen_s, kAbs_, kMax2_, kInt_i, kInt_s, kStr_, kSum, kAll_, kAny_, kNeg_, dat_dt, dat_ow, dat_pw, toDt_dt, toDt_ow, toDt_pw, toDt_un, okSlot_dt, okSlot_ow, okSlot_un, okP_dt, okP_un, ownOf_ow, ownOf_pw, isN_n, isN_b, isN_i, isN_s, isN_l, isN_t, flatD_n, flatD_b, flatD_i, flatD_s, setOwn, ixq_l_, ixq_t_, ixq_s_, slq_l, slq_s, eqq_ii, eqq_ss, eqq_ll, eqq_tt, inn_l, inn_s, wipeR, freeV, mTup_t, mBool_b, mBoolS_b, mInt_i, mStr_s, mLst_l, mOpt_s, mOw_o, mOwn_o, mI1_i, mI2_i, mL1_l]
      exact h.at (by rw [hft, if_pos hb.symm]; rfl)
    · rintro _ ⟨hb, rfl⟩
      exact hK _ ⟨hb.symm, rfl⟩
  · rintro _ ⟨hb, rfl⟩
    obtain ⟨hlen, hd, hu, hub, n, hn, hnb⟩ := bad_facts hb f3
    have hl0 : 0 < ps.length := List.length_pos_iff.mpr f3
    have m0 : ps.getD 0 "" ∈ ps := by
      rw [List.getD_eq_getElem?_getD, List.getElem?_eq_getElem hl0]
      exact List.getElem_mem hl0
    have a0 : atI (ps.map PyData.str) 0 = some (.str (ps.getD 0 "")) := atS hl0
    obtain ⟨n0, i0, v0, nb0, g0⟩ := digB_facts (hd _ m0)
    refine seq_i (fun ρ' => ρ' = [.dt (.str w), .dt (.list (ps.map .str)), .un, .dt (.int n0), .dt (.int (undr ps)), .un]) (fun K hK => ?_) ?_
    · simp [qVar_, qC, q2, q1, qTest_, qChain_, qAnd, qOr, qNot, qAndV_, qOrV_, qNotV_, qIf, qNil, qCons, qTup, qLst, qCB, qNext, qSeq, qRet, qRetN, qRetO_, qIfS, qAsg, qAsgO_, qPar, qParO_, qPar3, qPar3O_, qFrz_, qApN_, qStN_, qIxO_, qLend, qLendT, qNoPart, qPart_, qSl, qRevL_, qIsi_, qSplit_, qJoin_, qBits_, qIL_, qIT, qR1_, qR2_, qIS_, qIE_, qgN, qgNil, qgCons_, qgT_, qFor, qLc, qYes, qCall, qCallO_, kAdd, kI0_, kI_, kMul, kB0_, kEq, kNe, kIsN, kNotN, kIn, kNin, kLen_l, kLen_t, kLen_s, kAbs_, kMax2_, kInt_i, kInt_s, kStr_, kSum, kAll_, kAny_, kNeg_, dat_dt, dat_ow, dat_pw, toDt_dt, toDt_ow, toDt_pw, toDt_un, okSlot_dt, okSlot_ow, okSlot_un, okP_dt, okP_un, ownOf_ow, ownOf_pw, isN_n, isN_b, isN_i, isN_s, isN_l, isN_t, flatD_n, flatD_b, flatD_i, flatD_s, setOwn, ixq_l_, ixq_t_, ixq_s_, slq_l, slq_s, eqq_ii, eqq_ss, eqq_ll, eqq_tt, inn_l, inn_s, wipeR, freeV, mTup_t, mBool_b, mBoolS_b, mInt_i, mStr_s, mLst_l, mOpt_s, mOw_o, mOwn_o, mI1_i, mI2_i, mL1_l]
      rw [a0]
      simp only [dat_dt, mOpt_s, kInt_s, i0]
      refine ⟨g0, ?_⟩
      by_cases hl : ps.length = 2
      · have hl' : (ps.length : Int) = 2 := by omega
        have m1 : ps.getD 1 "" ∈ ps := by
          rw [List.getD_eq_getElem?_getD, List.getElem?_eq_getElem (by omega)]
          exact List.getElem_mem _
        obtain ⟨n1, i1, v1, _, g1⟩ := digB_facts (hd _ m1)
        have a1 : atI (ps.map PyData.str) 1 = some (.str (ps.getD 1 "")) := atS (i := 1) (by omega)
        rw [if_pos hl', a1]
        simp only [dat_dt, mOpt_s, kInt_s, i1]
        refine ⟨g1, hK _ ?_⟩
        unfold undr
        rw [if_pos hl, v1]
      · have hl' : ¬ (ps.length : Int) = 2 := by omega
        rw [if_neg hl']
        refine hK _ ?_
        unfold undr
        rw [if_neg hl]
    rintro _ rfl
    have tb : (topp w ps).natAbs < 10 ^ 9 := by
      unfold topp
      rw [hn]
      split <;> simpa using hnb
    have lo := low_ok tb hu hub
    refine seq_i (fun ρ' => ρ' = [.dt (.str w), .dt (.list (ps.map .str)), .dt (frD (low (topp w ps) (undr ps))), .dt (.int n0), .dt (.int (undr ps)), .un]) (fun K hK => ?_) ?_
    · simp [qVar_, qC, q2, q1, qTest_, qChain_, qAnd, qOr, qNot, qAndV_, qOrV_, qNotV_, qIf, qNil, qCons, qTup, qLst, qCB, qNext, qSeq, qRet, qRetN, qRetO_, qIfS, qAsg, qAsgO_, qPar, qParO_, qPar3, qPar3O_, qFrz_, qApN_, qStN_, qIxO_, qLend, qLendT, qNoPart, qPart_, qSl, qRevL_, qIsi_, qSplit_, qJoin_, qBits_, qIL_, qIT, qR1_, qR2_, qIS_, qIE_, qgN, qgNil, qgCons_, qgT_, qFor, qLc, qYes, qCall, qCallO_, kAdd, kI0_, kI_, kMul, kB0_, kEq, kNe, kIsN, kNotN, kIn, kNin, kLen_l, kLen_t, kLen_s, kAbs_, kMax2_, kInt_i, kInt_s, kStr_, kSum, kAll_, kAny_, kNeg_, dat_dt, dat_ow, dat_pw, toDt_dt, toDt_ow, toDt_pw, toDt_un, okSlot_dt, okSlot_ow, okSlot_un, okP_dt, okP_un, ownOf_ow, ownOf_pw, isN_n, isN_b, isN_i, isN_s, isN_l, isN_t, flatD_n, flatD_b, flatD_i, flatD_s, setOwn, ixq_l_, ixq_t_, ixq_s_, slq_l, slq_s, eqq_ii, eqq_ss, eqq_ll, eqq_tt, inn_l, inn_s, wipeR, freeV, mTup_t, mBool_b, mBoolS_b, mInt_i, mStr_s, mLst_l, mOpt_s, mOw_o, mOwn_o, mI1_i, mI2_i, mL1_l, hs]
      by_cases hn' : neg w = true
      · have hn2 : cutS w none (some 1) = "-" := by simpa [neg] using hn'
        rw [if_pos hn2]
        refine ⟨-n0, undr ps, by simp, hu, ten9 (by simpa using nb0), ten9 hub, fun ys => ?_⟩
        simp only [dat_dt]
        refine hK _ ?_
        unfold topp
        rw [if_pos hn', v0]
      · have hn2 : ¬ cutS w none (some 1) = "-" := by simpa [neg] using hn'
        rw [if_neg hn2]
        refine ⟨n0, undr ps, rfl, hu, ten9 (by simpa using nb0), ten9 hub, fun ys => ?_⟩
        simp only [dat_dt]
        refine hK _ ?_
        unfold topp
        rw [if_neg hn', v0]
    rintro _ rfl
    have hft2 : ft w = if fw (low (topp w ps) (undr ps)) = w then some (low (topp w ps) (undr ps)) else none := by rw [hft, if_neg (by rw [hb]; decide)]
    revert hft2 lo
    generalize low (topp w ps) (undr ps) = f
    intro lo hft2
    simp [qVar_, qC, q2, q1, qTest_, qChain_, qAnd, qOr, qNot, qAndV_, qOrV_, qNotV_, qIf, qNil, qCons, qTup, qLst, qCB, qNext, qSeq, qRet, qRetN, qRetO_, qIfS, qAsg, qAsgO_, qPar, qParO_, qPar3, qPar3O_, qFrz_, qApN_, qStN_, qIxO_, qLend, qLendT, qNoPart, qPart_, qSl, qRevL_, qIsi_, qSplit_, qJoin_, qBits_, qIL_, qIT, qR1_, qR2_, qIS_, qIE_, qgN, qgNil, qgCons_, qgT_, qFor, qLc, qYes, qCall, qCallO_, kAdd, kI0_, kI_, kMul, kB0_, kEq, kNe, kIsN, kNotN, kIn, kNin, kLen_l, kLen_t, kLen_s, kAbs_, kMax2_, kInt_i, kInt_s, kStr_, kSum, kAll_, kAny_, kNeg_, dat_dt, dat_ow, dat_pw, toDt_dt, toDt_ow, toDt_pw, toDt_un, okSlot_dt, okSlot_ow, okSlot_un, okP_dt, okP_un, ownOf_ow, ownOf_pw, isN_n, isN_b, isN_i, isN_s, isN_l, isN_t, flatD_n, flatD_b, flatD_i, flatD_s, setOwn, ixq_l_, ixq_t_, ixq_s_, slq_l, slq_s, eqq_ii, eqq_ss, eqq_ll, eqq_tt, inn_l, inn_s, wipeR, freeV, mTup_t, mBool_b, mBoolS_b, mInt_i, mStr_s, mLst_l, mOpt_s, mOw_o, mOwn_o, mI1_i, mI2_i, mL1_l]
    refine ⟨f, rfl, Nat.lt_trans lo.1.1 (by decide), Nat.lt_trans lo.1.2.2 (by decide), fun ys => ?_⟩
    simp only [SD.dat, eqq_ss, mBool_b]
    by_cases he : fw f = w
    · simp [he]
      exact h.at (by rw [hft2, if_pos he]; rfl)
    · simp [he]
      exact h.at (by rw [hft2, if_neg he]; rfl)
theorem ft_ok {w : Str} {f : Fr} (h : ft w = some f) : OkF f ∧ copr f = true := by
  obtain ⟨_, _, f3⟩ := split_facts (x := bodyW w) slash_ne slash_k
  have hft : ft w = if bad (Txt.split (bodyW w) "/") = true then none else if fw (low (topp w (Txt.split (bodyW w) "/")) (undr (Txt.split (bodyW w) "/"))) = w then some (low (topp w (Txt.split (bodyW w) "/")) (undr (Txt.split (bodyW w) "/"))) else none := rfl
  rw [hft] at h
  split at h
  · cases h
  · rename_i hb
    obtain ⟨_, _, hu, hub, n, hn, hnb⟩ := bad_facts (by simpa using hb) f3
    split at h
    · cases h
      refine low_ok ?_ hu hub
      unfold topp
      rw [hn]
      split <;> simpa using hnb
    · cases h
end K90
set_option Elab.async false
set_option linter.all false
set_option maxRecDepth 100000
set_option autoImplicit false
namespace K90
open PySem PySem.Spec PyProof.Rows L2 DL
def dFt : PyData → PyData | .str x => optF (ft x) | _ => .none
theorem optF_none (o : Option Fr) : isN (optF o) = !o.isSome := by cases o <;> rfl
theorem shq_fr {n : Nat} {f : Fr} : shq (n + 1) (frD f) := shq_tuple fun x hx => by
  rcases List.mem_cons.mp hx with h | hx
  · rw [h]; exact shq_int
  · rw [List.mem_singleton.mp hx]; exact shq_int
theorem shq_optF {n : Nat} {o : Option Fr} : shq (n + 1) (optF o) := by
  cases o
  · exact shq_none
  · exact shq_fr
theorem sp_ne : codes (" " : Str) ≠ [] := by decide
theorem sp_k : (" " : Str).cps.all (· < 256) = true := by decide +kernel
theorem none_any (ps : List Str) : anyEq (ps.map fun p => optF (ft p)) .none = !(ps.map ft).all (·.isSome) := by
  unfold anyEq
  induction ps with
  | nil => rfl
  | cons p r ih =>
    simp only [List.map_cons, List.any_cons, List.all_cons, ih, Bool.not_and]
    rw [eqv_none, optF_none]
theorem all_some {fs : List (Option Fr)} (h : fs.all (·.isSome) = true) : fs.map optF = (fs.filterMap id).map frD := by
  induction fs with
  | nil => rfl
  | cons p r ih =>
    simp only [List.all_cons, Bool.and_eq_true] at h
    obtain ⟨f, rfl⟩ := Option.isSome_iff_exists.mp h.1
    simp [optF, ih h.2]
theorem lsz {n : Nat} (h : n ≤ 200000) : n + 2 ≤ sizeLine := by
  have : 200000 + 2 ≤ sizeLine := by decide
  omega
theorem p_row_told (as R) (h : d_row_told as R) : as.length = 1 ∧ q_row_told { nx := fun ρ => R (.dt .none) (pwOf ρ), rt := fun r ρ => R r (pwOf ρ) } (as ++ List.replicate (N_row_told.length - 1) .un) := by
  obtain ⟨w, rfl, hz, hasc, h⟩ := h
  refine ⟨rfl, ?_⟩
  unfold q_row_told
  obtain ⟨f1, f2, f3⟩ := split_facts (x := w) sp_ne sp_k
  have hrt : rt w = if ((Txt.split w " ").map ft).all (·.isSome) = true then some (((Txt.split w " ").map ft).filterMap id) else none := rfl
  have hl2 : w.length + 2 ≤ sizeLine := lsz hz
  have hpl : (Txt.split w (" " : Str)).length ≤ sizeLine := by omega
  refine seq_i (fun ρ' => ρ' = [.dt (.str w), .dt (.list ((Txt.split w " ").map fun p => optF (ft p))), .un]) (fun K hK => ?_) ?_
  · simp [qVar_, qC, q2, q1, qTest_, qChain_, qAnd, qOr, qNot, qAndV_, qOrV_, qNotV_, qIf, qNil, qCons, qTup, qLst, qCB, qNext, qSeq, qRet, qRetN, qRetO_, qIfS, qAsg, qAsgO_, qPar, qParO_, qPar3, qPar3O_, qFrz_, qApN_, qStN_, qIxO_, qLend, qLendT, qNoPart, qPart_, qSl, qRevL_, qIsi_, qSplit_, qJoin_, qBits_, qIL_, qIT, qR1_, qR2_, qIS_, qIE_, qgN, qgNil, qgCons_, qgT_, qFor, qLc, qYes, qCall, qCallO_, kAdd, kI0_, kI_, kMul, kB0_, kEq, kNe, kIsN, kNotN, kIn, kNin, kLen_l, kLen_t, kLen_s, kAbs_, kMax2_, kInt_i, kInt_s, kStr_, kSum, kAll_, kAny_, kNeg_, dat_dt, dat_ow, dat_pw, toDt_dt, toDt_ow, toDt_pw, toDt_un, okSlot_dt, okSlot_ow, okSlot_un, okP_dt, okP_un, ownOf_ow, ownOf_pw, isN_n, isN_b, isN_i, isN_s, isN_l, isN_t, flatD_n, flatD_b, flatD_i, flatD_s, setOwn, ixq_l_, ixq_t_, ixq_s_, slq_l, slq_s, eqq_ii, eqq_ss, eqq_ll, eqq_tt, inn_l, inn_s, wipeR, freeV, mTup_t, mBool_b, mBoolS_b, mInt_i, mStr_s, mLst_l, mOpt_s, mOw_o, mOwn_o, mI1_i, mI2_i, mL1_l]
    refine ⟨by decide, hl2, ?_⟩
    refine lc_map rfl (by simpa using hpl) rfl dFt ?_ ?_
    · intro d hd Y hY
      obtain ⟨p, hp, rfl⟩ := List.mem_map.mp hd
      simp [qVar_, qC, q2, q1, qTest_, qChain_, qAnd, qOr, qNot, qAndV_, qOrV_, qNotV_, qIf, qNil, qCons, qTup, qLst, qCB, qNext, qSeq, qRet, qRetN, qRetO_, qIfS, qAsg, qAsgO_, qPar, qParO_, qPar3, qPar3O_, qFrz_, qApN_, qStN_, qIxO_, qLend, qLendT, qNoPart, qPart_, qSl, qRevL_, qIsi_, qSplit_, qJoin_, qBits_, qIL_, qIT, qR1_, qR2_, qIS_, qIE_, qgN, qgNil, qgCons_, qgT_, qFor, qLc, qYes, qCall, qCallO_, kAdd, kI0_, kI_, kMul, kB0_, kEq, kNe, kIsN, kNotN, kIn, kNin, kLen_l, kLen_t, kLen_s, kAbs_, kMax2_, kInt_i, kInt_s, kStr_, kSum, kAll_, kAny_, kNeg_, dat_dt, dat_ow, dat_pw, toDt_dt, toDt_ow, toDt_pw, toDt_un, okSlot_dt, okSlot_ow, okSlot_un, okP_dt, okP_un, ownOf_ow, ownOf_pw, isN_n, isN_b, isN_i, isN_s, isN_l, isN_t, flatD_n, flatD_b, flatD_i, flatD_s, setOwn, ixq_l_, ixq_t_, ixq_s_, slq_l, slq_s, eqq_ii, eqq_ss, eqq_ll, eqq_tt, inn_l, inn_s, wipeR, freeV, mTup_t, mBool_b, mBoolS_b, mInt_i, mStr_s, mLst_l, mOpt_s, mOw_o, mOwn_o, mI1_i, mI2_i, mL1_l]
      exact ⟨p, rfl, Nat.le_trans (f1 p hp).2 hz, fun c hc => hasc c ((f1 p hp).1 c hc), fun ys => hY⟩
    · simp [qVar_, qC, q2, q1, qTest_, qChain_, qAnd, qOr, qNot, qAndV_, qOrV_, qNotV_, qIf, qNil, qCons, qTup, qLst, qCB, qNext, qSeq, qRet, qRetN, qRetO_, qIfS, qAsg, qAsgO_, qPar, qParO_, qPar3, qPar3O_, qFrz_, qApN_, qStN_, qIxO_, qLend, qLendT, qNoPart, qPart_, qSl, qRevL_, qIsi_, qSplit_, qJoin_, qBits_, qIL_, qIT, qR1_, qR2_, qIS_, qIE_, qgN, qgNil, qgCons_, qgT_, qFor, qLc, qYes, qCall, qCallO_, kAdd, kI0_, kI_, kMul, kB0_, kEq, kNe, kIsN, kNotN, kIn, kNin, kLen_l, kLen_t, kLen_s, kAbs_, kMax2_, kInt_i, kInt_s, kStr_, kSum, kAll_, kAny_, kNeg_, dat_dt, dat_ow, dat_pw, toDt_dt, toDt_ow, toDt_pw, toDt_un, okSlot_dt, okSlot_ow, okSlot_un, okP_dt, okP_un, ownOf_ow, ownOf_pw, isN_n, isN_b, isN_i, isN_s, isN_l, isN_t, flatD_n, flatD_b, flatD_i, flatD_s, setOwn, ixq_l_, ixq_t_, ixq_s_, slq_l, slq_s, eqq_ii, eqq_ss, eqq_ll, eqq_tt, inn_l, inn_s, wipeR, freeV, mTup_t, mBool_b, mBoolS_b, mInt_i, mStr_s, mLst_l, mOpt_s, mOw_o, mOwn_o, mI1_i, mI2_i, mL1_l]
      exact hK _ (by simp [dFt, Function.comp_def])
  rintro _ rfl
  revert hrt hpl
  generalize Txt.split w (" " : Str) = ps
  intro hrt hpl
  simp [qVar_, qC, q2, q1, qTest_, qChain_, qAnd, qOr, qNot, qAndV_, qOrV_, qNotV_, qIf, qNil, qCons, qTup, qLst, qCB, qNext, qSeq, qRet, qRetN, qRetO_, qIfS, qAsg, qAsgO_, qPar, qParO_, qPar3, qPar3O_, qFrz_, qApN_, qStN_, qIxO_, qLend, qLendT, qNoPart, qPart_, qSl, qRevL_, qIsi_, qSplit_, qJoin_, qBits_, qIL_, qIT, qR1_, qR2_, qIS_, qIE_, qgN, qgNil, qgCons_, qgT_, qFor, qLc, qYes, qCall, qCallO_, kAdd, kI0_, kI_, kMul, kB0_, kEq, kNe, kIsN, kNotN, kIn, kNin, kLen_l, kLen_t, kLen_s, kAbs_, kMax2_, kInt_i, kInt_s, kStr_, kSum, kAll_, kAny_, kNeg_, dat_dt, dat_ow, dat_pw, toDt_dt, toDt_ow, toDt_pw, toDt_un, okSlot_dt, okSlot_ow, okSlot_un, okP_dt, okP_un, ownOf_ow, ownOf_pw, isN_n, isN_b, isN_i, isN_s, isN_l, isN_t, flatD_n, flatD_b, flatD_i, flatD_s, setOwn, ixq_l_, ixq_t_, ixq_s_, slq_l, slq_s, eqq_ii, eqq_ss, eqq_ll, eqq_tt, inn_l, inn_s, wipeR, freeV, mTup_t, mBool_b, mBoolS_b, mInt_i, mStr_s, mLst_l, mOpt_s, mOw_o, mOwn_o, mI1_i, mI2_i, mL1_l]
  refine ⟨by decide, (shq_list (n := 1) fun x hx => ?_).ok, ?_⟩
  · obtain ⟨p, _, rfl⟩ := List.mem_map.mp hx
    exact shq_optF
  rw [none_any]
  cases ha : (ps.map ft).all (·.isSome) with
  | false =>
    rw [ha] at hrt
    exact h.at (by rw [hrt]; rfl)
  | true =>
    rw [ha] at hrt
    refine h.at ?_
    rw [hrt]
    show PyData.list (ps.map fun p => optF (ft p)) = rowD ((ps.map ft).filterMap id)
    unfold rowD
    rw [← all_some ha, List.map_map]
    rfl
theorem rt_ok {w : Str} {r : List Fr} (h : rt w = some r) : r.length ≤ w.length + 1 ∧ ∀ f ∈ r, OkF f ∧ copr f = true := by
  obtain ⟨f1, f2, f3⟩ := split_facts (x := w) sp_ne sp_k
  have hrt : rt w = if ((Txt.split w " ").map ft).all (·.isSome) = true then some (((Txt.split w " ").map ft).filterMap id) else none := rfl
  rw [hrt] at h
  split at h
  · cases h
    refine ⟨?_, fun f hf => ?_⟩
    · refine Nat.le_trans (List.length_filterMap_le _ _) ?_
      rw [List.length_map]
      exact f2
    · obtain ⟨o, ho, e⟩ := List.mem_filterMap.mp hf
      obtain ⟨p, _, rfl⟩ := List.mem_map.mp ho
      exact ft_ok e
  · cases h
def dimS (k : Nat) : Str := ("dimensions " : Str) ++ Str.ofString (toString (1 + (k : Int)))
theorem dim0 : dimS 0 = "dimensions 1" := by decide +kernel
theorem dim1 : dimS 1 = "dimensions 2" := by decide +kernel
theorem dim2 : dimS 2 = "dimensions 3" := by decide +kernel
theorem dimT_eq (l : Str) : dimT l = if l = dimS 0 then some 1 else if l = dimS 1 then some 2 else if l = dimS 2 then some 3 else none := by rw [dim0, dim1, dim2]; rfl
theorem dim_len {k : Nat} (h : k < 3) : ("dimensions " : Str).length + (Str.ofString (toString (1 + (k : Int)))).length ≤ sizeLine := by
  have := num_len (i := 1 + (k : Int)) (by omega)
  have e : ("dimensions " : Str).length = 11 := by decide
  have e2 : 11 + 31 ≤ sizeLine := by decide
  have e3 : (num (1 + (k : Int))).length = (Str.ofString (toString (1 + (k : Int)))).length := rfl
  omega
theorem p_dimensions_told (as R) (h : d_dimensions_told as R) : as.length = 1 ∧ q_dimensions_told { nx := fun ρ => R (.dt .none) (pwOf ρ), rt := fun r ρ => R r (pwOf ρ) } (as ++ List.replicate (N_dimensions_told.length - 1) .un) := by
  obtain ⟨w, rfl, hz, h⟩ := h
  refine ⟨rfl, ?_⟩
  unfold q_dimensions_told
  simp [qVar_, qC, q2, q1, qTest_, qChain_, qAnd, qOr, qNot, qAndV_, qOrV_, qNotV_, qIf, qNil, qCons, qTup, qLst, qCB, qNext, qSeq, qRet, qRetN, qRetO_, qIfS, qAsg, qAsgO_, qPar, qParO_, qPar3, qPar3O_, qFrz_, qApN_, qStN_, qIxO_, qLend, qLendT, qNoPart, qPart_, qSl, qRevL_, qIsi_, qSplit_, qJoin_, qBits_, qIL_, qIT, qR1_, qR2_, qIS_, qIE_, qgN, qgNil, qgCons_, qgT_, qFor, qLc, qYes, qCall, qCallO_, kAdd, kI0_, kI_, kMul, kB0_, kEq, kNe, kIsN, kNotN, kIn, kNin, kLen_l, kLen_t, kLen_s, kAbs_, kMax2_, kInt_i, kInt_s, kStr_, kSum, kAll_, kAny_, kNeg_, dat_dt, dat_ow, dat_pw, toDt_dt, toDt_ow, toDt_pw, toDt_un, okSlot_dt, okSlot_ow, okSlot_un, okP_dt, okP_un, ownOf_ow, ownOf_pw, isN_n, isN_b, isN_i, isN_s, isN_l, isN_t, flatD_n, flatD_b, flatD_i, flatD_s, setOwn, ixq_l_, ixq_t_, ixq_s_, slq_l, slq_s, eqq_ii, eqq_ss, eqq_ll, eqq_tt, inn_l, inn_s, wipeR, freeV, mTup_t, mBool_b, mBoolS_b, mInt_i, mStr_s, mLst_l, mOpt_s, mOw_o, mOwn_o, mI1_i, mI2_i, mL1_l]
  refine ⟨fun i ρ => ∃ s1 : SD, okP (some s1) = true ∧ ρ = [.dt (.str w), s1] ∧ ∀ j : Nat, j < i → w ≠ dimS j, ⟨.un, rfl, rfl, fun j h1 => absurd h1 (Nat.not_lt_zero _)⟩, ?_, ?_⟩
  · rintro i d _ hd ⟨s1, o1, rfl, hI⟩
    obtain ⟨hi, rfl⟩ := rngD_get hd
    have ok1 : okP ([SD.dt (.str w), s1][1]?) = true := o1
    refine ⟨ok1, ?_⟩
    simp [qVar_, qC, q2, q1, qTest_, qChain_, qAnd, qOr, qNot, qAndV_, qOrV_, qNotV_, qIf, qNil, qCons, qTup, qLst, qCB, qNext, qSeq, qRet, qRetN, qRetO_, qIfS, qAsg, qAsgO_, qPar, qParO_, qPar3, qPar3O_, qFrz_, qApN_, qStN_, qIxO_, qLend, qLendT, qNoPart, qPart_, qSl, qRevL_, qIsi_, qSplit_, qJoin_, qBits_, qIL_, qIT, qR1_, qR2_, qIS_, qIE_, qgN, qgNil, qgCons_, qgT_, qFor, qLc, qYes, qCall, qCallO_, kAdd, kI0_, kI_, kMul, kB0_, kEq, kNe, kIsN, kNotN, kIn, kNin, kLen_l, kLen_t, kLen_s, kAbs_, kMax2_, kInt_i, kInt_s, kStr_, kSum, kAll_, kAny_, kNeg_, dat_dt, dat_ow, dat_pw, toDt_dt, toDt_ow, toDt_pw, toDt_un, okSlot_dt, okSlot_ow, okSlot_un, okP_dt, okP_un, ownOf_ow, ownOf_pw, isN_n, isN_b, isN_i, isN_s, isN_l, isN_t, flatD_n, flatD_b, flatD_i, flatD_s, setOwn, ixq_l_, ixq_t_, ixq_s_, slq_l, slq_s, eqq_ii, eqq_ss, eqq_ll, eqq_tt, inn_l, inn_s, wipeR, freeV, mTup_t, mBool_b, mBoolS_b, mInt_i, mStr_s, mLst_l, mOpt_s, mOw_o, mOwn_o, mI1_i, mI2_i, mL1_l]
    have hlog : (1 + (i : Int)).natAbs.log2 < 1920 := num_log (by omega)
    refine ⟨hlog, dim_len hi, ?_⟩
    have hdd : ("dimensions " : Str) ++ Str.ofString (toString (1 + (i : Int))) = dimS i := rfl
    have hdd' : ("dimensions " : Str) ++ Str.ofString ((1 + (i : Int)).repr) = dimS i := rfl
    rw [hdd']
    by_cases he : w = dimS i
    · rw [if_pos he]
      refine h.at ?_
      rw [dimT_eq]
      match i, hi with
      | 0, _ => rw [if_pos he]; rfl
      | 1, _ => rw [if_neg (hI 0 (by omega)), if_pos he]; rfl
      | 2, _ => rw [if_neg (hI 0 (by omega)), if_neg (hI 1 (by omega)), if_pos he]; rfl
    · rw [if_neg he]
      refine ⟨_, rfl, rfl, fun j hj => ?_⟩
      by_cases hji : j < i
      · exact hI j hji
      · have : j = i := by omega
        subst this
        exact he
  · rintro _ ⟨s1, o1, rfl, hI⟩
    rw [rngD_len] at hI
    simp [qVar_, qC, q2, q1, qTest_, qChain_, qAnd, qOr, qNot, qAndV_, qOrV_, qNotV_, qIf, qNil, qCons, qTup, qLst, qCB, qNext, qSeq, qRet, qRetN, qRetO_, qIfS, qAsg, qAsgO_, qPar, qParO_, qPar3, qPar3O_, qFrz_, qApN_, qStN_, qIxO_, qLend, qLendT, qNoPart, qPart_, qSl, qRevL_, qIsi_, qSplit_, qJoin_, qBits_, qIL_, qIT, qR1_, qR2_, qIS_, qIE_, qgN, qgNil, qgCons_, qgT_, qFor, qLc, qYes, qCall, qCallO_, kAdd, kI0_, kI_, kMul, kB0_, kEq, kNe, kIsN, kNotN, kIn, kNin, kLen_l, kLen_t, kLen_s, kAbs_, kMax2_, kInt_i, kInt_s, kStr_, kSum, kAll_, kAny_, kNeg_, dat_dt, dat_ow, dat_pw, toDt_dt, toDt_ow, toDt_pw, toDt_un, okSlot_dt, okSlot_ow, okSlot_un, okP_dt, okP_un, ownOf_ow, ownOf_pw, isN_n, isN_b, isN_i, isN_s, isN_l, isN_t, flatD_n, flatD_b, flatD_i, flatD_s, setOwn, ixq_l_, ixq_t_, ixq_s_, slq_l, slq_s, eqq_ii, eqq_ss, eqq_ll, eqq_tt, inn_l, inn_s, wipeR, freeV, mTup_t, mBool_b, mBoolS_b, mInt_i, mStr_s, mLst_l, mOpt_s, mOw_o, mOwn_o, mI1_i, mI2_i, mL1_l]
    refine h.at ?_
    rw [dimT_eq, if_neg (hI 0 (by decide)), if_neg (hI 1 (by decide)), if_neg (hI 2 (by decide))]
    rfl
end K90
set_option Elab.async false
set_option linter.all false
set_option maxRecDepth 100000
set_option autoImplicit false
namespace K90
open PySem PySem.Spec PyProof.Rows L2 DL
theorem isN_rowD (r : List Fr) : isN (rowD r) = false := rfl
theorem p_can_follow (as R) (h : d_can_follow as R) : as.length = 3 ∧ q_can_follow { nx := fun ρ => R (.dt .none) (pwOf ρ), rt := fun r ρ => R r (pwOf ρ) } (as ++ List.replicate (N_can_follow.length - 3) .un) := by
  obtain ⟨m, rows, o, rfl, hm, h8, hrows, hr, h⟩ := h
  refine ⟨rfl, ?_⟩
  unfold q_can_follow
  cases o with
  | none =>
    simp [qVar_, qC, q2, q1, qTest_, qChain_, qAnd, qOr, qNot, qAndV_, qOrV_, qNotV_, qIf, qNil, qCons, qTup, qLst, qCB, qNext, qSeq, qRet, qRetN, qRetO_, qIfS, qAsg, qAsgO_, qPar, qParO_, qPar3, qPar3O_, qFrz_, qApN_, qStN_, qIxO_, qLend, qLendT, qNoPart, qPart_, qSl, qRevL_, qIsi_, qSplit_, qJoin_, qBits_, qIL_, qIT, qR1_, qR2_, qIS_, qIE_, qgN, qgNil, qgCons_, qgT_, qFor, qLc, qYes, qCall, qCallO_, kAdd, kI0_, kI_, kMul, kB0_, kEq, kNe, kIsN, kNotN, kIn, kNin, kLen_l, kLen_t, kLen_s, kAbs_, kMax2_, kInt_i, kInt_s, kStr_, kSum, kAll_, kAny_, kNeg_, dat_dt, dat_ow, dat_pw, toDt_dt, toDt_ow, toDt_pw, toDt_un, okSlot_dt, okSlot_ow, okSlot_un, okP_dt, okP_un, ownOf_ow, ownOf_pw, isN_n, isN_b, isN_i, isN_s, isN_l, isN_t, flatD_n, flatD_b, flatD_i, flatD_s, setOwn, ixq_l_, ixq_t_, ixq_s_, slq_l, slq_s, eqq_ii, eqq_ss, eqq_ll, eqq_tt, inn_l, inn_s, wipeR, freeV, mTup_t, mBool_b, mBoolS_b, mInt_i, mStr_s, mLst_l, mOpt_s, mOw_o, mOwn_o, mI1_i, mI2_i, mL1_l, optR]
    exact h.at rfl
  | some r =>
    obtain ⟨hz, hrf⟩ := hr r rfl
    refine seq_i (fun ρ' => (okRow m r && decide (rows.length ≠ 8)) = true ∧ ρ' = [.dt (.int m), .dt (rowsD rows), .dt (rowD r), .un]) (fun K hK => ?_) ?_
    · refine ifs_i (fun b ρ' => b = !(okRow m r && decide (rows.length ≠ 8)) ∧ ρ' = [.dt (.int m), .dt (rowsD rows), .dt (rowD r), .un]) (fun K hK => ?_) ?_ ?_
      · simp [qVar_, qC, q2, q1, qTest_, qChain_, qAnd, qOr, qNot, qAndV_, qOrV_, qNotV_, qIf, qNil, qCons, qTup, qLst, qCB, qNext, qSeq, qRet, qRetN, qRetO_, qIfS, qAsg, qAsgO_, qPar, qParO_, qPar3, qPar3O_, qFrz_, qApN_, qStN_, qIxO_, qLend, qLendT, qNoPart, qPart_, qSl, qRevL_, qIsi_, qSplit_, qJoin_, qBits_, qIL_, qIT, qR1_, qR2_, qIS_, qIE_, qgN, qgNil, qgCons_, qgT_, qFor, qLc, qYes, qCall, qCallO_, kAdd, kI0_, kI_, kMul, kB0_, kEq, kNe, kIsN, kNotN, kIn, kNin, kLen_l, kLen_t, kLen_s, kAbs_, kMax2_, kInt_i, kInt_s, kStr_, kSum, kAll_, kAny_, kNeg_, dat_dt, dat_ow, dat_pw, toDt_dt, toDt_ow, toDt_pw, toDt_un, okSlot_dt, okSlot_ow, okSlot_un, okP_dt, okP_un, ownOf_ow, ownOf_pw, isN_n, isN_b, isN_i, isN_s, isN_l, isN_t, flatD_n, flatD_b, flatD_i, flatD_s, setOwn, ixq_l_, ixq_t_, ixq_s_, slq_l, slq_s, eqq_ii, eqq_ss, eqq_ll, eqq_tt, inn_l, inn_s, wipeR, freeV, mTup_t, mBool_b, mBoolS_b, mInt_i, mStr_s, mLst_l, mOpt_s, mOw_o, mOwn_o, mI1_i, mI2_i, mL1_l, optR, isN_rowD]
        refine ⟨m, r, rfl, by omega, hz, hrf, fun ys => ?_⟩
        simp only [SD.dat, mBool_b]
        by_cases ho : okRow m r = true
        · simp [ho]
          simp [qVar_, qC, q2, q1, qTest_, qChain_, qAnd, qOr, qNot, qAndV_, qOrV_, qNotV_, qIf, qNil, qCons, qTup, qLst, qCB, qNext, qSeq, qRet, qRetN, qRetO_, qIfS, qAsg, qAsgO_, qPar, qParO_, qPar3, qPar3O_, qFrz_, qApN_, qStN_, qIxO_, qLend, qLendT, qNoPart, qPart_, qSl, qRevL_, qIsi_, qSplit_, qJoin_, qBits_, qIL_, qIT, qR1_, qR2_, qIS_, qIE_, qgN, qgNil, qgCons_, qgT_, qFor, qLc, qYes, qCall, qCallO_, kAdd, kI0_, kI_, kMul, kB0_, kEq, kNe, kIsN, kNotN, kIn, kNin, kLen_l, kLen_t, kLen_s, kAbs_, kMax2_, kInt_i, kInt_s, kStr_, kSum, kAll_, kAny_, kNeg_, dat_dt, dat_ow, dat_pw, toDt_dt, toDt_ow, toDt_pw, toDt_un, okSlot_dt, okSlot_ow, okSlot_un, okP_dt, okP_un, ownOf_ow, ownOf_pw, isN_n, isN_b, isN_i, isN_s, isN_l, isN_t, flatD_n, flatD_b, flatD_i, flatD_s, setOwn, ixq_l_, ixq_t_, ixq_s_, slq_l, slq_s, eqq_ii, eqq_ss, eqq_ll, eqq_tt, inn_l, inn_s, wipeR, freeV, mTup_t, mBool_b, mBoolS_b, mInt_i, mStr_s, mLst_l, mOpt_s, mOw_o, mOwn_o, mI1_i, mI2_i, mL1_l, rowsD]
          rw [ho] at hK
          by_cases hl : rows.length = 8
          · have hl' : (rows.length : Int) = 8 := by omega
            rw [show decide ((rows.length : Int) = 8) = true from decide_eq_true hl']
            exact hK _ _ ⟨by simp [hl], rfl⟩
          · have hl' : ¬ (rows.length : Int) = 8 := by omega
            rw [show decide ((rows.length : Int) = 8) = false from decide_eq_false hl']
            exact hK _ _ ⟨by simp [hl], rfl⟩
        · have ho' : okRow m r = false := by simpa using ho
          simp [ho']
          exact hK _ _ ⟨by simp [ho'], rfl⟩
      · rintro _ ⟨hb, rfl⟩
        simp [qVar_, qC, q2, q1, qTest_, qChain_, qAnd, qOr, qNot, qAndV_, qOrV_, qNotV_, qIf, qNil, qCons, qTup, qLst, qCB, qNext, qSeq, qRet, qRetN, qRetO_, qIfS, qAsg, qAsgO_, qPar, qParO_, qPar3, qPar3O_, qFrz_, qApN_, qStN_, qIxO_, qLend, qLendT, qNoPart, qPart_, qSl, qRevL_, qIsi_, qSplit_, qJoin_, qBits_, qIL_, qIT, qR1_, qR2_, qIS_, qIE_, qgN, qgNil, qgCons_, qgT_, qFor, qLc, qYes, qCall, qCallO_, kAdd, kI0_, kI_, kMul, kB0_, kEq, kNe, kIsN, kNotN, kIn, kNin, kLen_l, kLen_t, kLen_s, kAbs_, kMax2_, kInt_i, kInt_s, kStr_, kSum, kAll_, kAny_, kNeg_, dat_dt, dat_ow, dat_pw, toDt_dt, toDt_ow, toDt_pw, toDt_un, okSlot_dt, okSlot_ow, okSlot_un, okP_dt, okP_un, ownOf_ow, ownOf_pw, isN_n, isN_b, isN_i, isN_s, isN_l, isN_t, flatD_n, flatD_b, flatD_i, flatD_s, setOwn, ixq_l_, ixq_t_, ixq_s_, slq_l, slq_s, eqq_ii, eqq_ss, eqq_ll, eqq_tt, inn_l, inn_s, wipeR, freeV, mTup_t, mBool_b, mBoolS_b, mInt_i, mStr_s, mLst_l, mOpt_s, mOw_o, mOwn_o, mI1_i, mI2_i, mL1_l]
        refine h.at ?_
        have : (okRow m r && decide (rows.length ≠ 8)) = false := by
          cases hq : (okRow m r && decide (rows.length ≠ 8))
          · rfl
          · rw [hq] at hb; cases hb
        show PyData.bool false = PyData.bool (canF m rows r)
        unfold canF
        rw [this]
        rfl
      · rintro _ ⟨hb, rfl⟩
        refine hK _ ⟨?_, rfl⟩
        cases hq : (okRow m r && decide (rows.length ≠ 8))
        · rw [hq] at hb; cases hb
        · rfl
    · rintro _ ⟨hb, rfl⟩
      have hlr : r.length = m + 1 := by
        have := (Bool.and_eq_true_iff.mp hb).1
        unfold okRow at this
        exact of_decide_eq_true (Bool.and_eq_true_iff.mp this).1
      simp [qVar_, qC, q2, q1, qTest_, qChain_, qAnd, qOr, qNot, qAndV_, qOrV_, qNotV_, qIf, qNil, qCons, qTup, qLst, qCB, qNext, qSeq, qRet, qRetN, qRetO_, qIfS, qAsg, qAsgO_, qPar, qParO_, qPar3, qPar3O_, qFrz_, qApN_, qStN_, qIxO_, qLend, qLendT, qNoPart, qPart_, qSl, qRevL_, qIsi_, qSplit_, qJoin_, qBits_, qIL_, qIT, qR1_, qR2_, qIS_, qIE_, qgN, qgNil, qgCons_, qgT_, qFor, qLc, qYes, qCall, qCallO_, kAdd, kI0_, kI_, kMul, kB0_, kEq, kNe, kIsN, kNotN, kIn, kNin, kLen_l, kLen_t, kLen_s, kAbs_, kMax2_, kInt_i, kInt_s, kStr_, kSum, kAll_, kAny_, kNeg_, dat_dt, dat_ow, dat_pw, toDt_dt, toDt_ow, toDt_pw, toDt_un, okSlot_dt, okSlot_ow, okSlot_un, okP_dt, okP_un, ownOf_ow, ownOf_pw, isN_n, isN_b, isN_i, isN_s, isN_l, isN_t, flatD_n, flatD_b, flatD_i, flatD_s, setOwn, ixq_l_, ixq_t_, ixq_s_, slq_l, slq_s, eqq_ii, eqq_ss, eqq_ll, eqq_tt, inn_l, inn_s, wipeR, freeV, mTup_t, mBool_b, mBoolS_b, mInt_i, mStr_s, mLst_l, mOpt_s, mOw_o, mOwn_o, mI1_i, mI2_i, mL1_l, rowsD]
      have h8' : rows.length ≤ sizeLine := by
        have : 8 ≤ sizeLine := by decide
        omega
      refine lc_map rfl (by simpa using h8') rfl (fun d => match d with | .list xs => .bool (sameR (xs.map fun e => match e with | .tuple [.int a, .int b] => (a, b) | _ => (0, 0)) r) | _ => .none) ?_ ?_
      · intro d hd Y hY
        obtain ⟨x, hx, rfl⟩ := List.mem_map.mp hd
        obtain ⟨q1, q2⟩ := hrows x hx
        have ex : ((x.map frD).map fun e => match e with | .tuple [.int a, .int b] => (a, b) | _ => (0, 0)) = x := by
          rw [List.map_map]
          conv => rhs; rw [← List.map_id x]
          rfl
        simp only [rowD, ex] at hY
        simp [qVar_, qC, q2, q1, qTest_, qChain_, qAnd, qOr, qNot, qAndV_, qOrV_, qNotV_, qIf, qNil, qCons, qTup, qLst, qCB, qNext, qSeq, qRet, qRetN, qRetO_, qIfS, qAsg, qAsgO_, qPar, qParO_, qPar3, qPar3O_, qFrz_, qApN_, qStN_, qIxO_, qLend, qLendT, qNoPart, qPart_, qSl, qRevL_, qIsi_, qSplit_, qJoin_, qBits_, qIL_, qIT, qR1_, qR2_, qIS_, qIE_, qgN, qgNil, qgCons_, qgT_, qFor, qLc, qYes, qCall, qCallO_, kAdd, kI0_, kI_, kMul, kB0_, kEq, kNe, kIsN, kNotN, kIn, kNin, kLen_l, kLen_t, kLen_s, kAbs_, kMax2_, kInt_i, kInt_s, kStr_, kSum, kAll_, kAny_, kNeg_, dat_dt, dat_ow, dat_pw, toDt_dt, toDt_ow, toDt_pw, toDt_un, okSlot_dt, okSlot_ow, okSlot_un, okP_dt, okP_un, ownOf_ow, ownOf_pw, isN_n, isN_b, isN_i, isN_s, isN_l, isN_t, flatD_n, flatD_b, flatD_i, flatD_s, setOwn, ixq_l_, ixq_t_, ixq_s_, slq_l, slq_s, eqq_ii, eqq_ss, eqq_ll, eqq_tt, inn_l, inn_s, wipeR, freeV, mTup_t, mBool_b, mBoolS_b, mInt_i, mStr_s, mLst_l, mOpt_s, mOw_o, mOwn_o, mI1_i, mI2_i, mL1_l]
        exact ⟨x, r, rfl, by omega, by omega, fun f hf => (q2 f hf).1, fun f hf => (hrf f hf).1, fun ys => hY⟩
      · simp [qVar_, qC, q2, q1, qTest_, qChain_, qAnd, qOr, qNot, qAndV_, qOrV_, qNotV_, qIf, qNil, qCons, qTup, qLst, qCB, qNext, qSeq, qRet, qRetN, qRetO_, qIfS, qAsg, qAsgO_, qPar, qParO_, qPar3, qPar3O_, qFrz_, qApN_, qStN_, qIxO_, qLend, qLendT, qNoPart, qPart_, qSl, qRevL_, qIsi_, qSplit_, qJoin_, qBits_, qIL_, qIT, qR1_, qR2_, qIS_, qIE_, qgN, qgNil, qgCons_, qgT_, qFor, qLc, qYes, qCall, qCallO_, kAdd, kI0_, kI_, kMul, kB0_, kEq, kNe, kIsN, kNotN, kIn, kNin, kLen_l, kLen_t, kLen_s, kAbs_, kMax2_, kInt_i, kInt_s, kStr_, kSum, kAll_, kAny_, kNeg_, dat_dt, dat_ow, dat_pw, toDt_dt, toDt_ow, toDt_pw, toDt_un, okSlot_dt, okSlot_ow, okSlot_un, okP_dt, okP_un, ownOf_ow, ownOf_pw, isN_n, isN_b, isN_i, isN_s, isN_l, isN_t, flatD_n, flatD_b, flatD_i, flatD_s, setOwn, ixq_l_, ixq_t_, ixq_s_, slq_l, slq_s, eqq_ii, eqq_ss, eqq_ll, eqq_tt, inn_l, inn_s, wipeR, freeV, mTup_t, mBool_b, mBoolS_b, mInt_i, mStr_s, mLst_l, mOpt_s, mOw_o, mOwn_o, mI1_i, mI2_i, mL1_l]
        refine ⟨rows.map fun x => sameR x r, ?_, ?_⟩
        · rw [List.map_map]
          refine List.map_congr_left fun x hx => ?_
          have ex : ((x.map frD).map fun e => match e with | .tuple [.int a, .int b] => (a, b) | _ => (0, 0)) = x := by
            rw [List.map_map]
            conv => rhs; rw [← List.map_id x]
            rfl
          simp only [Function.comp, rowD, ex]
        · rw [anyB_map]
          refine h.at ?_
          show PyData.bool _ = PyData.bool (canF m rows r)
          unfold canF
          rw [hb]
          congr 1
          simp [List.any_eq_not_all_not]
def optM : Option Nat → PyData | none => .none | some m => .int m
theorem wr_none {n : Nat} {rs : List (List Fr)} {l : Str} {ls : List Str} : wr none rs n (l :: ls) = match dimT l with | none => some n | some k => wr (some k.toNat) rs (n + 1) ls := rfl
theorem wr_some {n m : Nat} {rs : List (List Fr)} {l : Str} {ls : List Str} : wr (some m) rs n (l :: ls) = match rt l with | none => some n | some r => if canF m rs r = true then wr (some m) (rs ++ [r]) (n + 1) ls else some n := rfl
theorem dimT_cases (l : Str) : dimT l = none ∨ ∃ m : Nat, m ≤ 3 ∧ dimT l = some (m : Int) ∧ optI (dimT l) = .int m := by
  unfold dimT
  split
  · exact .inr ⟨1, by decide, rfl, rfl⟩
  · split
    · exact .inr ⟨2, by decide, rfl, rfl⟩
    · split
      · exact .inr ⟨3, by decide, rfl, rfl⟩
      · exact .inl rfl
theorem canF_ok {m : Nat} {rows : List (List Fr)} {r : List Fr} (h : canF m rows r = true) : r.length = m + 1 ∧ rows.length ≠ 8 := by
  unfold canF at h
  simp only [Bool.and_eq_true, decide_eq_true_eq] at h
  refine ⟨?_, h.1.2⟩
  have := h.1.1
  unfold okRow at this
  exact of_decide_eq_true (Bool.and_eq_true_iff.mp this).1
theorem enum_item {ls : List Str} {i : Nat} {d : PyData} (h : (enumD (ls.map PyData.str))[i]? = some d) : ∃ l, ls[i]? = some l ∧ d = .tuple [.int (i : Nat), .str l] ∧ i < ls.length := by
  rw [enumD_get, List.getElem?_map, Option.map_map] at h
  obtain ⟨l, h1, h2⟩ := Option.map_eq_some_iff.mp h
  exact ⟨l, h1, h2.symm, (List.getElem?_eq_some_iff.mp h1).1⟩
theorem enum_len (ls : List Str) : (enumD (ls.map PyData.str)).length = ls.length := by simp [enumD]
theorem p_wrong_in (as R) (h : d_wrong_in as R) : as.length = 1 ∧ q_wrong_in { nx := fun ρ => R (.dt .none) (pwOf ρ), rt := fun r ρ => R r (pwOf ρ) } (as ++ List.replicate (N_wrong_in.length - 1) .un) := by
  obtain ⟨ls, rfl, ⟨hl, hls⟩, h⟩ := h
  refine ⟨rfl, ?_⟩
  unfold q_wrong_in
  refine seq_i (fun ρ' => ρ' = [.dt (.list (ls.map .str)), .dt .none, .ow [], .un, .un, .un]) (fun K hK => ?_) ?_
  · simp [qVar_, qC, q2, q1, qTest_, qChain_, qAnd, qOr, qNot, qAndV_, qOrV_, qNotV_, qIf, qNil, qCons, qTup, qLst, qCB, qNext, qSeq, qRet, qRetN, qRetO_, qIfS, qAsg, qAsgO_, qPar, qParO_, qPar3, qPar3O_, qFrz_, qApN_, qStN_, qIxO_, qLend, qLendT, qNoPart, qPart_, qSl, qRevL_, qIsi_, qSplit_, qJoin_, qBits_, qIL_, qIT, qR1_, qR2_, qIS_, qIE_, qgN, qgNil, qgCons_, qgT_, qFor, qLc, qYes, qCall, qCallO_, kAdd, kI0_, kI_, kMul, kB0_, kEq, kNe, kIsN, kNotN, kIn, kNin, kLen_l, kLen_t, kLen_s, kAbs_, kMax2_, kInt_i, kInt_s, kStr_, kSum, kAll_, kAny_, kNeg_, dat_dt, dat_ow, dat_pw, toDt_dt, toDt_ow, toDt_pw, toDt_un, okSlot_dt, okSlot_ow, okSlot_un, okP_dt, okP_un, ownOf_ow, ownOf_pw, isN_n, isN_b, isN_i, isN_s, isN_l, isN_t, flatD_n, flatD_b, flatD_i, flatD_s, setOwn, ixq_l_, ixq_t_, ixq_s_, slq_l, slq_s, eqq_ii, eqq_ss, eqq_ll, eqq_tt, inn_l, inn_s, wipeR, freeV, mTup_t, mBool_b, mBoolS_b, mInt_i, mStr_s, mLst_l, mOpt_s, mOw_o, mOwn_o, mI1_i, mI2_i, mL1_l]
    exact hK _ rfl
  rintro _ rfl
  refine seq_i (fun ρ' => wr none [] 0 ls = none) (fun K hK => ?_) ?_
  · simp [qVar_, qC, q2, q1, qTest_, qChain_, qAnd, qOr, qNot, qAndV_, qOrV_, qNotV_, qIf, qNil, qCons, qTup, qLst, qCB, qNext, qSeq, qRet, qRetN, qRetO_, qIfS, qAsg, qAsgO_, qPar, qParO_, qPar3, qPar3O_, qFrz_, qApN_, qStN_, qIxO_, qLend, qLendT, qNoPart, qPart_, qSl, qRevL_, qIsi_, qSplit_, qJoin_, qBits_, qIL_, qIT, qR1_, qR2_, qIS_, qIE_, qgN, qgNil, qgCons_, qgT_, qFor, qLc, qYes, qCall, qCallO_, kAdd, kI0_, kI_, kMul, kB0_, kEq, kNe, kIsN, kNotN, kIn, kNin, kLen_l, kLen_t, kLen_s, kAbs_, kMax2_, kInt_i, kInt_s, kStr_, kSum, kAll_, kAny_, kNeg_, dat_dt, dat_ow, dat_pw, toDt_dt, toDt_ow, toDt_pw, toDt_un, okSlot_dt, okSlot_ow, okSlot_un, okP_dt, okP_un, ownOf_ow, ownOf_pw, isN_n, isN_b, isN_i, isN_s, isN_l, isN_t, flatD_n, flatD_b, flatD_i, flatD_s, setOwn, ixq_l_, ixq_t_, ixq_s_, slq_l, slq_s, eqq_ii, eqq_ss, eqq_ll, eqq_tt, inn_l, inn_s, wipeR, freeV, mTup_t, mBool_b, mBoolS_b, mInt_i, mStr_s, mLst_l, mOpt_s, mOw_o, mOwn_o, mI1_i, mI2_i, mL1_l]
    refine ⟨fun i ρ => ∃ (mo : Option Nat) (rs : List (List Fr)) (s3 s4 s5 : SD), okP (some s3) = true ∧ okP (some s4) = true ∧ okP (some s5) = true ∧ ρ = [.dt (.list (ls.map .str)), .dt (optM mo), .ow (rs.map rowD), s3, s4, s5] ∧
      wr none [] 0 ls = wr mo rs i (ls.drop i) ∧ (mo = none ↔ i = 0) ∧ (mo = none → rs = []) ∧ rs.length ≤ 8 ∧ ∀ m, mo = some m → m ≤ 3 ∧ ∀ r ∈ rs, RowOk m r, ⟨none, [], .un, .un, .un, rfl, rfl, rfl, rfl, rfl, by simp, fun _ => rfl, by simp, fun m hm => by cases hm⟩, ?_, ?_⟩
    · rintro i d _ hd ⟨mo, rs, s3, s4, s5, o3, o4, o5, rfl, hw, hm0, hrn, h8, hrs⟩
      obtain ⟨l, hli, rfl, hilt⟩ := enum_item hd
      have hdrop : ls.drop i = l :: ls.drop (i + 1) := by
        rw [List.drop_eq_getElem_cons hilt]
        congr 1
        exact (List.getElem?_eq_some_iff.mp hli).2
      rw [hdrop] at hw
      obtain ⟨l1, l2⟩ := hls l (List.mem_of_getElem? hli)
      simp [qVar_, qC, q2, q1, qTest_, qChain_, qAnd, qOr, qNot, qAndV_, qOrV_, qNotV_, qIf, qNil, qCons, qTup, qLst, qCB, qNext, qSeq, qRet, qRetN, qRetO_, qIfS, qAsg, qAsgO_, qPar, qParO_, qPar3, qPar3O_, qFrz_, qApN_, qStN_, qIxO_, qLend, qLendT, qNoPart, qPart_, qSl, qRevL_, qIsi_, qSplit_, qJoin_, qBits_, qIL_, qIT, qR1_, qR2_, qIS_, qIE_, qgN, qgNil, qgCons_, qgT_, qFor, qLc, qYes, qCall, qCallO_, kAdd, kI0_, kI_, kMul, kB0_, kEq, kNe, kIsN, kNotN, kIn, kNin, kLen_l, kLen_t, kLen_s, kAbs_, kMax2_, kInt_i, kInt_s, kStr_, kSum, kAll_, kAny_, kNeg_, dat_dt, dat_ow, dat_pw, toDt_dt, toDt_ow, toDt_pw, toDt_un, okSlot_dt, okSlot_ow, okSlot_un, okP_dt, okP_un, ownOf_ow, ownOf_pw, isN_n, isN_b, isN_i, isN_s, isN_l, isN_t, flatD_n, flatD_b, flatD_i, flatD_s, setOwn, ixq_l_, ixq_t_, ixq_s_, slq_l, slq_s, eqq_ii, eqq_ss, eqq_ll, eqq_tt, inn_l, inn_s, wipeR, freeV, mTup_t, mBool_b, mBoolS_b, mInt_i, mStr_s, mLst_l, mOpt_s, mOw_o, mOwn_o, mI1_i, mI2_i, mL1_l]
      refine ⟨o3, o4, ?_⟩
      by_cases hi : i = 0
      · have hmo := hm0.mpr hi
        subst hmo hi
        simp
        refine ⟨l, rfl, l1, fun ys => ?_⟩
        rw [wr_none] at hw
        rcases dimT_cases l with hd | ⟨m, hm3, hd, hd2⟩
        · rw [hd] at hw ⊢
          simp [qVar_, qC, q2, q1, qTest_, qChain_, qAnd, qOr, qNot, qAndV_, qOrV_, qNotV_, qIf, qNil, qCons, qTup, qLst, qCB, qNext, qSeq, qRet, qRetN, qRetO_, qIfS, qAsg, qAsgO_, qPar, qParO_, qPar3, qPar3O_, qFrz_, qApN_, qStN_, qIxO_, qLend, qLendT, qNoPart, qPart_, qSl, qRevL_, qIsi_, qSplit_, qJoin_, qBits_, qIL_, qIT, qR1_, qR2_, qIS_, qIE_, qgN, qgNil, qgCons_, qgT_, qFor, qLc, qYes, qCall, qCallO_, kAdd, kI0_, kI_, kMul, kB0_, kEq, kNe, kIsN, kNotN, kIn, kNin, kLen_l, kLen_t, kLen_s, kAbs_, kMax2_, kInt_i, kInt_s, kStr_, kSum, kAll_, kAny_, kNeg_, dat_dt, dat_ow, dat_pw, toDt_dt, toDt_ow, toDt_pw, toDt_un, okSlot_dt, okSlot_ow, okSlot_un, okP_dt, okP_un, ownOf_ow, ownOf_pw, isN_n, isN_b, isN_i, isN_s, isN_l, isN_t, flatD_n, flatD_b, flatD_i, flatD_s, setOwn, ixq_l_, ixq_t_, ixq_s_, slq_l, slq_s, eqq_ii, eqq_ss, eqq_ll, eqq_tt, inn_l, inn_s, wipeR, freeV, mTup_t, mBool_b, mBoolS_b, mInt_i, mStr_s, mLst_l, mOpt_s, mOw_o, mOwn_o, mI1_i, mI2_i, mL1_l, optI]
          exact h.at (by rw [hw]; rfl)
        · rw [hd2]
          rw [hd] at hw
          simp [qVar_, qC, q2, q1, qTest_, qChain_, qAnd, qOr, qNot, qAndV_, qOrV_, qNotV_, qIf, qNil, qCons, qTup, qLst, qCB, qNext, qSeq, qRet, qRetN, qRetO_, qIfS, qAsg, qAsgO_, qPar, qParO_, qPar3, qPar3O_, qFrz_, qApN_, qStN_, qIxO_, qLend, qLendT, qNoPart, qPart_, qSl, qRevL_, qIsi_, qSplit_, qJoin_, qBits_, qIL_, qIT, qR1_, qR2_, qIS_, qIE_, qgN, qgNil, qgCons_, qgT_, qFor, qLc, qYes, qCall, qCallO_, kAdd, kI0_, kI_, kMul, kB0_, kEq, kNe, kIsN, kNotN, kIn, kNin, kLen_l, kLen_t, kLen_s, kAbs_, kMax2_, kInt_i, kInt_s, kStr_, kSum, kAll_, kAny_, kNeg_, dat_dt, dat_ow, dat_pw, toDt_dt, toDt_ow, toDt_pw, toDt_un, okSlot_dt, okSlot_ow, okSlot_un, okP_dt, okP_un, ownOf_ow, ownOf_pw, isN_n, isN_b, isN_i, isN_s, isN_l, isN_t, flatD_n, flatD_b, flatD_i, flatD_s, setOwn, ixq_l_, ixq_t_, ixq_s_, slq_l, slq_s, eqq_ii, eqq_ss, eqq_ll, eqq_tt, inn_l, inn_s, wipeR, freeV, mTup_t, mBool_b, mBoolS_b, mInt_i, mStr_s, mLst_l, mOpt_s, mOw_o, mOwn_o, mI1_i, mI2_i, mL1_l]
          have e0 := hrn rfl
          subst e0
          exact ⟨some m, [], .dt (.int 0), rfl, .dt (.str l), rfl, s5, o5, ⟨rfl, rfl, rfl, rfl, rfl⟩, by simpa using hw, by simp, by simp, by simp, fun m' hm' => by cases hm'; exact ⟨hm3, fun r hr => by cases hr⟩⟩
      · have hi' : ¬ (i : Int) = 0 := by omega
        rw [if_neg hi]
        cases mo with
        | none => exact absurd (hm0.mp rfl) hi
        | some m =>
          obtain ⟨hm3, hrows⟩ := hrs m rfl
          rw [wr_some] at hw
          refine ⟨l, rfl, l1, l2, fun ys => ?_⟩
          have o5' : okSlot ([SD.dt (.list (ls.map .str)), SD.dt (optM (some m)), SD.ow (rs.map rowD), SD.dt (.int i), SD.dt (.str l), s5][5]?) = true := by
            show okSlot (some s5) = true
            cases s5 <;> first | rfl | cases o5
          refine ⟨o5', ?_⟩
          simp [qVar_, qC, q2, q1, qTest_, qChain_, qAnd, qOr, qNot, qAndV_, qOrV_, qNotV_, qIf, qNil, qCons, qTup, qLst, qCB, qNext, qSeq, qRet, qRetN, qRetO_, qIfS, qAsg, qAsgO_, qPar, qParO_, qPar3, qPar3O_, qFrz_, qApN_, qStN_, qIxO_, qLend, qLendT, qNoPart, qPart_, qSl, qRevL_, qIsi_, qSplit_, qJoin_, qBits_, qIL_, qIT, qR1_, qR2_, qIS_, qIE_, qgN, qgNil, qgCons_, qgT_, qFor, qLc, qYes, qCall, qCallO_, kAdd, kI0_, kI_, kMul, kB0_, kEq, kNe, kIsN, kNotN, kIn, kNin, kLen_l, kLen_t, kLen_s, kAbs_, kMax2_, kInt_i, kInt_s, kStr_, kSum, kAll_, kAny_, kNeg_, dat_dt, dat_ow, dat_pw, toDt_dt, toDt_ow, toDt_pw, toDt_un, okSlot_dt, okSlot_ow, okSlot_un, okP_dt, okP_un, ownOf_ow, ownOf_pw, isN_n, isN_b, isN_i, isN_s, isN_l, isN_t, flatD_n, flatD_b, flatD_i, flatD_s, setOwn, ixq_l_, ixq_t_, ixq_s_, slq_l, slq_s, eqq_ii, eqq_ss, eqq_ll, eqq_tt, inn_l, inn_s, wipeR, freeV, mTup_t, mBool_b, mBoolS_b, mInt_i, mStr_s, mLst_l, mOpt_s, mOw_o, mOwn_o, mI1_i, mI2_i, mL1_l]
          refine ⟨m, rs, rt l, rfl, hm3, h8, hrows, fun r hr => ?_, fun ys => ?_⟩
          · obtain ⟨q1, q2⟩ := rt_ok hr
            exact ⟨by have : 200001 ≤ sizeLine := by decide
                      omega, q2⟩
          · simp only [SD.dat, mBool_b]
            cases hr : rt l with
            | none =>
              rw [hr] at hw
              simp [qVar_, qC, q2, q1, qTest_, qChain_, qAnd, qOr, qNot, qAndV_, qOrV_, qNotV_, qIf, qNil, qCons, qTup, qLst, qCB, qNext, qSeq, qRet, qRetN, qRetO_, qIfS, qAsg, qAsgO_, qPar, qParO_, qPar3, qPar3O_, qFrz_, qApN_, qStN_, qIxO_, qLend, qLendT, qNoPart, qPart_, qSl, qRevL_, qIsi_, qSplit_, qJoin_, qBits_, qIL_, qIT, qR1_, qR2_, qIS_, qIE_, qgN, qgNil, qgCons_, qgT_, qFor, qLc, qYes, qCall, qCallO_, kAdd, kI0_, kI_, kMul, kB0_, kEq, kNe, kIsN, kNotN, kIn, kNin, kLen_l, kLen_t, kLen_s, kAbs_, kMax2_, kInt_i, kInt_s, kStr_, kSum, kAll_, kAny_, kNeg_, dat_dt, dat_ow, dat_pw, toDt_dt, toDt_ow, toDt_pw, toDt_un, okSlot_dt, okSlot_ow, okSlot_un, okP_dt, okP_un, ownOf_ow, ownOf_pw, isN_n, isN_b, isN_i, isN_s, isN_l, isN_t, flatD_n, flatD_b, flatD_i, flatD_s, setOwn, ixq_l_, ixq_t_, ixq_s_, slq_l, slq_s, eqq_ii, eqq_ss, eqq_ll, eqq_tt, inn_l, inn_s, wipeR, freeV, mTup_t, mBool_b, mBoolS_b, mInt_i, mStr_s, mLst_l, mOpt_s, mOw_o, mOwn_o, mI1_i, mI2_i, mL1_l]
              exact h.at (by rw [hw]; rfl)
            | some r =>
              rw [hr] at hw
              simp only [] at hw
              by_cases hc : canF m rs r = true
              · rw [if_pos hc] at hw
                simp [qVar_, qC, q2, q1, qTest_, qChain_, qAnd, qOr, qNot, qAndV_, qOrV_, qNotV_, qIf, qNil, qCons, qTup, qLst, qCB, qNext, qSeq, qRet, qRetN, qRetO_, qIfS, qAsg, qAsgO_, qPar, qParO_, qPar3, qPar3O_, qFrz_, qApN_, qStN_, qIxO_, qLend, qLendT, qNoPart, qPart_, qSl, qRevL_, qIsi_, qSplit_, qJoin_, qBits_, qIL_, qIT, qR1_, qR2_, qIS_, qIE_, qgN, qgNil, qgCons_, qgT_, qFor, qLc, qYes, qCall, qCallO_, kAdd, kI0_, kI_, kMul, kB0_, kEq, kNe, kIsN, kNotN, kIn, kNin, kLen_l, kLen_t, kLen_s, kAbs_, kMax2_, kInt_i, kInt_s, kStr_, kSum, kAll_, kAny_, kNeg_, dat_dt, dat_ow, dat_pw, toDt_dt, toDt_ow, toDt_pw, toDt_un, okSlot_dt, okSlot_ow, okSlot_un, okP_dt, okP_un, ownOf_ow, ownOf_pw, isN_n, isN_b, isN_i, isN_s, isN_l, isN_t, flatD_n, flatD_b, flatD_i, flatD_s, setOwn, ixq_l_, ixq_t_, ixq_s_, slq_l, slq_s, eqq_ii, eqq_ss, eqq_ll, eqq_tt, inn_l, inn_s, wipeR, freeV, mTup_t, mBool_b, mBoolS_b, mInt_i, mStr_s, mLst_l, mOpt_s, mOw_o, mOwn_o, mI1_i, mI2_i, mL1_l, hc]
                have hsz : rs.length < sizeLine := by
                  have : 8 < sizeLine := by decide
                  omega
                refine ⟨hsz, ?_⟩
                obtain ⟨c1, c2⟩ := canF_ok hc
                refine ⟨some m, rs ++ [r], .dt (.int i), rfl, .dt (.str l), rfl, .dt (rowD r), rfl, ⟨rfl, by simp [optR], rfl, rfl, rfl⟩, hw, by simp, by simp, by simp; omega, fun m' hm' => ?_⟩
                cases hm'
                refine ⟨hm3, fun r' hr' => ?_⟩
                rcases List.mem_append.mp hr' with z | z
                · exact hrows _ z
                · rw [List.mem_singleton.mp z]
                  exact ⟨c1, (rt_ok hr).2⟩
              · rw [if_neg hc] at hw
                have hc' : canF m rs r = false := by simpa using hc
                simp [qVar_, qC, q2, q1, qTest_, qChain_, qAnd, qOr, qNot, qAndV_, qOrV_, qNotV_, qIf, qNil, qCons, qTup, qLst, qCB, qNext, qSeq, qRet, qRetN, qRetO_, qIfS, qAsg, qAsgO_, qPar, qParO_, qPar3, qPar3O_, qFrz_, qApN_, qStN_, qIxO_, qLend, qLendT, qNoPart, qPart_, qSl, qRevL_, qIsi_, qSplit_, qJoin_, qBits_, qIL_, qIT, qR1_, qR2_, qIS_, qIE_, qgN, qgNil, qgCons_, qgT_, qFor, qLc, qYes, qCall, qCallO_, kAdd, kI0_, kI_, kMul, kB0_, kEq, kNe, kIsN, kNotN, kIn, kNin, kLen_l, kLen_t, kLen_s, kAbs_, kMax2_, kInt_i, kInt_s, kStr_, kSum, kAll_, kAny_, kNeg_, dat_dt, dat_ow, dat_pw, toDt_dt, toDt_ow, toDt_pw, toDt_un, okSlot_dt, okSlot_ow, okSlot_un, okP_dt, okP_un, ownOf_ow, ownOf_pw, isN_n, isN_b, isN_i, isN_s, isN_l, isN_t, flatD_n, flatD_b, flatD_i, flatD_s, setOwn, ixq_l_, ixq_t_, ixq_s_, slq_l, slq_s, eqq_ii, eqq_ss, eqq_ll, eqq_tt, inn_l, inn_s, wipeR, freeV, mTup_t, mBool_b, mBoolS_b, mInt_i, mStr_s, mLst_l, mOpt_s, mOw_o, mOwn_o, mI1_i, mI2_i, mL1_l, hc']
                exact h.at (by rw [hw]; rfl)
    · rintro _ ⟨mo, rs, s3, s4, s5, o3, o4, o5, rfl, hw, _⟩
      refine hK _ ?_
      rw [hw, enum_len, List.drop_length]
      cases mo <;> rfl
  · intro ρ hw
    simp [qVar_, qC, q2, q1, qTest_, qChain_, qAnd, qOr, qNot, qAndV_, qOrV_, qNotV_, qIf, qNil, qCons, qTup, qLst, qCB, qNext, qSeq, qRet, qRetN, qRetO_, qIfS, qAsg, qAsgO_, qPar, qParO_, qPar3, qPar3O_, qFrz_, qApN_, qStN_, qIxO_, qLend, qLendT, qNoPart, qPart_, qSl, qRevL_, qIsi_, qSplit_, qJoin_, qBits_, qIL_, qIT, qR1_, qR2_, qIS_, qIE_, qgN, qgNil, qgCons_, qgT_, qFor, qLc, qYes, qCall, qCallO_, kAdd, kI0_, kI_, kMul, kB0_, kEq, kNe, kIsN, kNotN, kIn, kNin, kLen_l, kLen_t, kLen_s, kAbs_, kMax2_, kInt_i, kInt_s, kStr_, kSum, kAll_, kAny_, kNeg_, dat_dt, dat_ow, dat_pw, toDt_dt, toDt_ow, toDt_pw, toDt_un, okSlot_dt, okSlot_ow, okSlot_un, okP_dt, okP_un, ownOf_ow, ownOf_pw, isN_n, isN_b, isN_i, isN_s, isN_l, isN_t, flatD_n, flatD_b, flatD_i, flatD_s, setOwn, ixq_l_, ixq_t_, ixq_s_, slq_l, slq_s, eqq_ii, eqq_ss, eqq_ll, eqq_tt, inn_l, inn_s, wipeR, freeV, mTup_t, mBool_b, mBoolS_b, mInt_i, mStr_s, mLst_l, mOpt_s, mOw_o, mOwn_o, mI1_i, mI2_i, mL1_l]
    exact h.at (by rw [hw]; rfl)
end K90
set_option Elab.async false
set_option linter.all false
set_option maxRecDepth 100000
set_option autoImplicit false
namespace K90
open PySem PySem.Spec PyProof.Rows L2 DL
theorem cutD_last {xs : List PyData} (h : xs ≠ []) : DL.cutD xs none (some (-1)) = xs.dropLast := by
  have hl : 0 < xs.length := List.length_pos_iff.mpr h
  unfold DL.cutD
  have e : HT.sIx xs.length xs.length (some (-1)) = xs.length - 1 := by
    show (if (-1 : Int) < 0 then ((-1 : Int) + (xs.length : Int)).toNat else min (-1 : Int).toNat xs.length) = xs.length - 1
    rw [if_pos (by decide)]
    omega
  rw [e, show HT.sIx xs.length 0 none = 0 from rfl, List.drop_zero, Nat.sub_zero, List.dropLast_eq_take]
theorem nl_ne : codes ("\n" : Str) ≠ [] := by decide
theorem nl_k : ("\n" : Str).cps.all (· < 256) = true := by decide +kernel
theorem lines_facts {t : Str} (h : TxOk t) : linesOf t ≠ [] ∧ (linesOf t).length ≤ 100001 ∧ LsOk (linesOf t).dropLast := by
  obtain ⟨f1, f2, f3⟩ := split_facts (x := t) nl_ne nl_k
  refine ⟨f3, Nat.le_trans f2 (by have := h.1; omega), ?_, fun l hl => ?_⟩
  · rw [List.length_dropLast]
    have : (linesOf t).length ≤ 100001 := Nat.le_trans f2 (by have := h.1; omega)
    omega
  · obtain ⟨q1, q2⟩ := f1 l (List.dropLast_subset _ hl)
    exact ⟨by have := h.1; omega, fun c hc => h.2 c (q1 c hc)⟩
theorem optN_none (o : Option Nat) : isN (optN o) = !o.isSome := by cases o <;> rfl
theorem atS_last' {ls : List Str} (h : ls ≠ []) : ∃ z, ls.getLast? = some z ∧ atI (ls.map PyData.str) (-1) = some (.str z) := atS_last h
theorem wrongBy_eq (t : Str) : wrongBy t = match wr none [] 0 (linesOf t).dropLast with
  | some n => some n
  | none => if (linesOf t).getLast? ≠ some ("" : Str) ∨ (linesOf t).length < 3 then some ((linesOf t).length - 1) else none := rfl
theorem p_wrong_by (as R) (h : d_wrong_by as R) : as.length = 1 ∧ q_wrong_by { nx := fun ρ => R (.dt .none) (pwOf ρ), rt := fun r ρ => R r (pwOf ρ) } (as ++ List.replicate (N_wrong_by.length - 1) .un) := by
  obtain ⟨t, rfl, ht, h⟩ := h
  refine ⟨rfl, ?_⟩
  unfold q_wrong_by
  obtain ⟨l0, l1, l2⟩ := lines_facts ht
  have hw := wrongBy_eq t
  have hsz : t.length + 2 ≤ sizeLine := lsz (by have := ht.1; omega)
  refine seq_i (fun ρ' => ρ' = [.dt (.str t), .dt (.list ((linesOf t).map .str)), .un]) (fun K hK => ?_) ?_
  · simp [qVar_, qC, q2, q1, qTest_, qChain_, qAnd, qOr, qNot, qAndV_, qOrV_, qNotV_, qIf, qNil, qCons, qTup, qLst, qCB, qNext, qSeq, qRet, qRetN, qRetO_, qIfS, qAsg, qAsgO_, qPar, qParO_, qPar3, qPar3O_, qFrz_, qApN_, qStN_, qIxO_, qLend, qLendT, qNoPart, qPart_, qSl, qRevL_, qIsi_, qSplit_, qJoin_, qBits_, qIL_, qIT, qR1_, qR2_, qIS_, qIE_, qgN, qgNil, qgCons_, qgT_, qFor, qLc, qYes, qCall, qCallO_, kAdd, kI0_, kI_, kMul, kB0_, kEq, kNe, kIsN, kNotN, kIn, kNin, kLen_l, kLen_t, kLen_s, kAbs_, kMax2_, kInt_i, kInt_s, kStr_, kSum, kAll_, kAny_, kNeg_, dat_dt, dat_ow, dat_pw, toDt_dt, toDt_ow, toDt_pw, toDt_un, okSlot_dt, okSlot_ow, okSlot_un, okP_dt, okP_un, ownOf_ow, ownOf_pw, isN_n, isN_b, isN_i, isN_s, isN_l, isN_t, flatD_n, flatD_b, flatD_i, flatD_s, setOwn, ixq_l_, ixq_t_, ixq_s_, slq_l, slq_s, eqq_ii, eqq_ss, eqq_ll, eqq_tt, inn_l, inn_s, wipeR, freeV, mTup_t, mBool_b, mBoolS_b, mInt_i, mStr_s, mLst_l, mOpt_s, mOw_o, mOwn_o, mI1_i, mI2_i, mL1_l]
    exact ⟨by decide, hsz, hK _ rfl⟩
  rintro _ rfl
  revert l0 l1 l2 hw
  generalize linesOf t = ls
  intro l0 l1 l2 hw
  have hne : ls.map PyData.str ≠ [] := by simpa using l0
  refine seq_i (fun ρ' => ρ' = [.dt (.str t), .dt (.list (ls.map .str)), .dt (optN (wr none [] 0 ls.dropLast))]) (fun K hK => ?_) ?_
  · simp [qVar_, qC, q2, q1, qTest_, qChain_, qAnd, qOr, qNot, qAndV_, qOrV_, qNotV_, qIf, qNil, qCons, qTup, qLst, qCB, qNext, qSeq, qRet, qRetN, qRetO_, qIfS, qAsg, qAsgO_, qPar, qParO_, qPar3, qPar3O_, qFrz_, qApN_, qStN_, qIxO_, qLend, qLendT, qNoPart, qPart_, qSl, qRevL_, qIsi_, qSplit_, qJoin_, qBits_, qIL_, qIT, qR1_, qR2_, qIS_, qIE_, qgN, qgNil, qgCons_, qgT_, qFor, qLc, qYes, qCall, qCallO_, kAdd, kI0_, kI_, kMul, kB0_, kEq, kNe, kIsN, kNotN, kIn, kNin, kLen_l, kLen_t, kLen_s, kAbs_, kMax2_, kInt_i, kInt_s, kStr_, kSum, kAll_, kAny_, kNeg_, dat_dt, dat_ow, dat_pw, toDt_dt, toDt_ow, toDt_pw, toDt_un, okSlot_dt, okSlot_ow, okSlot_un, okP_dt, okP_un, ownOf_ow, ownOf_pw, isN_n, isN_b, isN_i, isN_s, isN_l, isN_t, flatD_n, flatD_b, flatD_i, flatD_s, setOwn, ixq_l_, ixq_t_, ixq_s_, slq_l, slq_s, eqq_ii, eqq_ss, eqq_ll, eqq_tt, inn_l, inn_s, wipeR, freeV, mTup_t, mBool_b, mBoolS_b, mInt_i, mStr_s, mLst_l, mOpt_s, mOw_o, mOwn_o, mI1_i, mI2_i, mL1_l]
    rw [cutD_last hne, ← List.map_dropLast]
    exact ⟨ls.dropLast, rfl, l2, fun ys => hK _ rfl⟩
  rintro _ rfl
  cases hq : wr none [] 0 ls.dropLast with
  | some n =>
    rw [hq] at hw
    simp [qVar_, qC, q2, q1, qTest_, qChain_, qAnd, qOr, qNot, qAndV_, qOrV_, qNotV_, qIf, qNil, qCons, qTup, qLst, qCB, qNext, qSeq, qRet, qRetN, qRetO_, qIfS, qAsg, qAsgO_, qPar, qParO_, qPar3, qPar3O_, qFrz_, qApN_, qStN_, qIxO_, qLend, qLendT, qNoPart, qPart_, qSl, qRevL_, qIsi_, qSplit_, qJoin_, qBits_, qIL_, qIT, qR1_, qR2_, qIS_, qIE_, qgN, qgNil, qgCons_, qgT_, qFor, qLc, qYes, qCall, qCallO_, kAdd, kI0_, kI_, kMul, kB0_, kEq, kNe, kIsN, kNotN, kIn, kNin, kLen_l, kLen_t, kLen_s, kAbs_, kMax2_, kInt_i, kInt_s, kStr_, kSum, kAll_, kAny_, kNeg_, dat_dt, dat_ow, dat_pw, toDt_dt, toDt_ow, toDt_pw, toDt_un, okSlot_dt, okSlot_ow, okSlot_un, okP_dt, okP_un, ownOf_ow, ownOf_pw, isN_n, isN_b, isN_i, isN_s, isN_l, isN_t, flatD_n, flatD_b, flatD_i, flatD_s, setOwn, ixq_l_, ixq_t_, ixq_s_, slq_l, slq_s, eqq_ii, eqq_ss, eqq_ll, eqq_tt, inn_l, inn_s, wipeR, freeV, mTup_t, mBool_b, mBoolS_b, mInt_i, mStr_s, mLst_l, mOpt_s, mOw_o, mOwn_o, mI1_i, mI2_i, mL1_l, optN]
    exact h.at (by rw [hw]; rfl)
  | none =>
    rw [hq] at hw
    obtain ⟨z, hz1, hz2⟩ := atS_last' l0
    simp only [hz1] at hw
    simp [qVar_, qC, q2, q1, qTest_, qChain_, qAnd, qOr, qNot, qAndV_, qOrV_, qNotV_, qIf, qNil, qCons, qTup, qLst, qCB, qNext, qSeq, qRet, qRetN, qRetO_, qIfS, qAsg, qAsgO_, qPar, qParO_, qPar3, qPar3O_, qFrz_, qApN_, qStN_, qIxO_, qLend, qLendT, qNoPart, qPart_, qSl, qRevL_, qIsi_, qSplit_, qJoin_, qBits_, qIL_, qIT, qR1_, qR2_, qIS_, qIE_, qgN, qgNil, qgCons_, qgT_, qFor, qLc, qYes, qCall, qCallO_, kAdd, kI0_, kI_, kMul, kB0_, kEq, kNe, kIsN, kNotN, kIn, kNin, kLen_l, kLen_t, kLen_s, kAbs_, kMax2_, kInt_i, kInt_s, kStr_, kSum, kAll_, kAny_, kNeg_, dat_dt, dat_ow, dat_pw, toDt_dt, toDt_ow, toDt_pw, toDt_un, okSlot_dt, okSlot_ow, okSlot_un, okP_dt, okP_un, ownOf_ow, ownOf_pw, isN_n, isN_b, isN_i, isN_s, isN_l, isN_t, flatD_n, flatD_b, flatD_i, flatD_s, setOwn, ixq_l_, ixq_t_, ixq_s_, slq_l, slq_s, eqq_ii, eqq_ss, eqq_ll, eqq_tt, inn_l, inn_s, wipeR, freeV, mTup_t, mBool_b, mBoolS_b, mInt_i, mStr_s, mLst_l, mOpt_s, mOw_o, mOwn_o, mI1_i, mI2_i, mL1_l, optN, hz2]
    by_cases he : z = ("" : Str)
    · simp [he] at hw ⊢
      by_cases h3 : ls.length < 3
      · have h3' : (ls.length : Int) < 3 := by omega
        rw [if_pos h3'] 
        rw [if_pos h3] at hw
        refine h.at ?_
        rw [hw]
        show PyData.int _ = PyData.int _
        congr 1
        have : 0 < ls.length := List.length_pos_iff.mpr l0
        omega
      · have h3' : ¬ (ls.length : Int) < 3 := by omega
        rw [if_neg h3']
        rw [if_neg h3] at hw
        exact h.at (by rw [hw]; rfl)
    · simp [he] at hw ⊢
      refine h.at ?_
      rw [hw]
      show PyData.int _ = PyData.int _
      congr 1
      have : 0 < ls.length := List.length_pos_iff.mpr l0
      omega
theorem p__law_lowest (as R) (h : d__law_lowest as R) : as.length = 2 ∧ q__law_lowest { nx := fun ρ => R (.dt .none) (pwOf ρ), rt := fun r ρ => R r (pwOf ρ) } (as ++ List.replicate (N__law_lowest.length - 2) .un) := by
  obtain ⟨a, b, rfl, hb, hza, hz, h⟩ := h
  refine ⟨rfl, ?_⟩
  unfold q__law_lowest
  refine seq_i (fun ρ' => ρ' = [.dt (.int a), .dt (.int b), .dt (.int (if a < 0 then -a else a)), .dt (.int (if b < 0 then -b else b))]) (fun K hK => ?_) ?_
  · simp [qVar_, qC, q2, q1, qTest_, qChain_, qAnd, qOr, qNot, qAndV_, qOrV_, qNotV_, qIf, qNil, qCons, qTup, qLst, qCB, qNext, qSeq, qRet, qRetN, qRetO_, qIfS, qAsg, qAsgO_, qPar, qParO_, qPar3, qPar3O_, qFrz_, qApN_, qStN_, qIxO_, qLend, qLendT, qNoPart, qPart_, qSl, qRevL_, qIsi_, qSplit_, qJoin_, qBits_, qIL_, qIT, qR1_, qR2_, qIS_, qIE_, qgN, qgNil, qgCons_, qgT_, qFor, qLc, qYes, qCall, qCallO_, kAdd, kI0_, kI_, kMul, kB0_, kEq, kNe, kIsN, kNotN, kIn, kNin, kLen_l, kLen_t, kLen_s, kAbs_, kMax2_, kInt_i, kInt_s, kStr_, kSum, kAll_, kAny_, kNeg_, dat_dt, dat_ow, dat_pw, toDt_dt, toDt_ow, toDt_pw, toDt_un, okSlot_dt, okSlot_ow, okSlot_un, okP_dt, okP_un, ownOf_ow, ownOf_pw, isN_n, isN_b, isN_i, isN_s, isN_l, isN_t, flatD_n, flatD_b, flatD_i, flatD_s, setOwn, ixq_l_, ixq_t_, ixq_s_, slq_l, slq_s, eqq_ii, eqq_ss, eqq_ll, eqq_tt, inn_l, inn_s, wipeR, freeV, mTup_t, mBool_b, mBoolS_b, mInt_i, mStr_s, mLst_l, mOpt_s, mOw_o, mOwn_o, mI1_i, mI2_i, mL1_l]
    exact hK _ rfl
  rintro _ rfl
  have hg := gcd_pos' (a := a) hb
  have hl := gcd_le' (a := a) hb
  refine seq_i (fun ρ' => ρ' = [.dt (.int a), .dt (.int b), .dt (.int (Int.gcd a b : Nat)), .dt (.int 0)]) (fun K hK => ?_) ?_
  · refine ⟨fun ρ => ∃ x y : Int, ρ = [.dt (.int a), .dt (.int b), .dt (.int x), .dt (.int y)] ∧ 0 ≤ x ∧ 0 ≤ y ∧ x.natAbs < 2 ^ 4000 ∧ y ≤ b ∧ Int.gcd x y = Int.gcd a b, fun ρ => match ρ with | [_, _, _, .dt (.int y)] => y.toNat | _ => 0, ⟨_, _, rfl, by split <;> omega, by split <;> omega, by split <;> omega, by split <;> omega, ?_⟩, ?_⟩
    · split <;> split <;> simp
    · rintro _ ⟨x, y, rfl, hx, hy, hxb, hyb, hgg⟩
      simp [qVar_, qC, q2, q1, qTest_, qChain_, qAnd, qOr, qNot, qAndV_, qOrV_, qNotV_, qIf, qNil, qCons, qTup, qLst, qCB, qNext, qSeq, qRet, qRetN, qRetO_, qIfS, qAsg, qAsgO_, qPar, qParO_, qPar3, qPar3O_, qFrz_, qApN_, qStN_, qIxO_, qLend, qLendT, qNoPart, qPart_, qSl, qRevL_, qIsi_, qSplit_, qJoin_, qBits_, qIL_, qIT, qR1_, qR2_, qIS_, qIE_, qgN, qgNil, qgCons_, qgT_, qFor, qLc, qYes, qCall, qCallO_, kAdd, kI0_, kI_, kMul, kB0_, kEq, kNe, kIsN, kNotN, kIn, kNin, kLen_l, kLen_t, kLen_s, kAbs_, kMax2_, kInt_i, kInt_s, kStr_, kSum, kAll_, kAny_, kNeg_, dat_dt, dat_ow, dat_pw, toDt_dt, toDt_ow, toDt_pw, toDt_un, okSlot_dt, okSlot_ow, okSlot_un, okP_dt, okP_un, ownOf_ow, ownOf_pw, isN_n, isN_b, isN_i, isN_s, isN_l, isN_t, flatD_n, flatD_b, flatD_i, flatD_s, setOwn, ixq_l_, ixq_t_, ixq_s_, slq_l, slq_s, eqq_ii, eqq_ss, eqq_ll, eqq_tt, inn_l, inn_s, wipeR, freeV, mTup_t, mBool_b, mBoolS_b, mInt_i, mStr_s, mLst_l, mOpt_s, mOw_o, mOwn_o, mI1_i, mI2_i, mL1_l]
      by_cases h0 : 0 < y
      · simp [h0]
        have h1 := Int.emod_nonneg x (show y ≠ 0 by omega)
        have h2 := Int.emod_lt_of_pos x h0
        have e : x - x / y * y = x % y := by rw [Int.emod_def, Int.mul_comm]
        have cd : CDivW x y := cdiv h0 (by omega)
        have cm : CMulW (x / y) y := cmul (by have := Int.ediv_le_self y hx; have := Int.ediv_nonneg hx hy; omega) (by omega)
        refine ⟨cd, cm, ⟨_, _, ⟨rfl, rfl⟩, by omega, by rw [e]; exact h1, by omega, by rw [e]; omega, by rw [e, gcd_step hx h0]; exact hgg⟩, by rw [e]; omega⟩
      · have e : y = 0 := by omega
        subst e
        simp
        refine hK _ ?_
        have e2 : x = (Int.gcd a b : Nat) := by
          rw [← hgg, Int.gcd_zero_right]
          omega
        rw [e2]
  rintro _ rfl
  simp [qVar_, qC, q2, q1, qTest_, qChain_, qAnd, qOr, qNot, qAndV_, qOrV_, qNotV_, qIf, qNil, qCons, qTup, qLst, qCB, qNext, qSeq, qRet, qRetN, qRetO_, qIfS, qAsg, qAsgO_, qPar, qParO_, qPar3, qPar3O_, qFrz_, qApN_, qStN_, qIxO_, qLend, qLendT, qNoPart, qPart_, qSl, qRevL_, qIsi_, qSplit_, qJoin_, qBits_, qIL_, qIT, qR1_, qR2_, qIS_, qIE_, qgN, qgNil, qgCons_, qgT_, qFor, qLc, qYes, qCall, qCallO_, kAdd, kI0_, kI_, kMul, kB0_, kEq, kNe, kIsN, kNotN, kIn, kNin, kLen_l, kLen_t, kLen_s, kAbs_, kMax2_, kInt_i, kInt_s, kStr_, kSum, kAll_, kAny_, kNeg_, dat_dt, dat_ow, dat_pw, toDt_dt, toDt_ow, toDt_pw, toDt_un, okSlot_dt, okSlot_ow, okSlot_un, okP_dt, okP_un, ownOf_ow, ownOf_pw, isN_n, isN_b, isN_i, isN_s, isN_l, isN_t, flatD_n, flatD_b, flatD_i, flatD_s, setOwn, ixq_l_, ixq_t_, ixq_s_, slq_l, slq_s, eqq_ii, eqq_ss, eqq_ll, eqq_tt, inn_l, inn_s, wipeR, freeV, mTup_t, mBool_b, mBoolS_b, mInt_i, mStr_s, mLst_l, mOpt_s, mOw_o, mOwn_o, mI1_i, mI2_i, mL1_l, hb]
  refine ⟨cdiv (by omega) (by omega), cdiv (by omega) (by omega), by decide, h.at rfl⟩
theorem p__law_times (as R) (h : d__law_times as R) : as.length = 2 ∧ q__law_times { nx := fun ρ => R (.dt .none) (pwOf ρ), rt := fun r ρ => R r (pwOf ρ) } (as ++ List.replicate (N__law_times.length - 2) .un) := by
  obtain ⟨⟨a, b⟩, ⟨c, d⟩, rfl, ⟨h1, h2, h3⟩, ⟨h4, h5, h6⟩, h⟩ := h
  refine ⟨rfl, ?_⟩
  unfold q__law_times
  simp only [] at h1 h2 h3 h4 h5 h6
  simp [qVar, qC, q2, q1, qTest, qChain, qAnd, qOr, qNot, qAndV, qOrV, qNotV, qIf, qNil, qCons, qTup, qLst, qCB, qNext, qSeq, qRet, qRetN, qRetO, qIfS, qAsg, qAsgO, qPar, qParO, qPar3, qPar3O, qFrz, qApN, qApp, qStN, qIxO, qLend, qLendT, qNoPart, qPart, qSl, qRevL, qIsi, qSplit, qJoin, qBits, qIL, qIT, qR1, qR2, qIS, qIE, qgN, qgNil, qgCons, qgT, qFor, qLc, qYes, qCall, qCallO, kAdd, kSub, kI0, kI, kMul, kFdiv, kMod, kPow, kLt, kLe, kGt, kGe, kB0, kEq, kNe, kIsN, kNotN, kIn, kNin, kLen, kAbs, kMax2, kInt, kStr, kSum, kAll_, kAny_, kNeg, isN, SD.dat, SD.toDt, okSlot, okP, DL.ownOf, setOwn, flatD, ixq_l, ixq_t, ixq_s, slq_l, slq_s, eqq_ii, eqq_ss, eqq_ll, eqq_tt, inn_l, inn_s, wipeR, freeV, frD, ix0, ix1]
  refine ⟨cmul (ten9 h1) (ten9 h4), cmul (ten9 h3) (ten9 h6), _, _, rfl, Int.mul_pos h2 h5, ten18 (mul_bd h1 h4), ten18 (mul_bd h3 h6), fun ys => ?_⟩
  exact h.at rfl
end K90
set_option Elab.async false
set_option linter.all false
set_option maxRecDepth 100000
set_option autoImplicit false
namespace K90
open PySem PySem.Spec PyProof.Rows L2 DL
theorem low_self {f : Fr} (h : 0 < f.2) : decide (low f.1 f.2 = f) = copr f := by
  obtain ⟨a, b⟩ := f
  have h0 : 0 < b := h
  unfold copr
  show decide (low a b = (a, b)) = (Int.gcd a b == 1)
  have hg := gcd_pos' (a := a) h0
  by_cases h1 : Int.gcd a b = 1
  · rw [h1]
    have : low a b = (a, b) := by unfold low; rw [h1]; simp
    rw [this]
    simp
  · have e1 : (Int.gcd a b == 1) = false := by simpa using h1
    rw [e1]
    refine decide_eq_false fun z => h1 ?_
    obtain ⟨k, hk⟩ := Int.gcd_dvd_right a b
    have e2 : b / (Int.gcd a b : Nat) = k := by
      conv => lhs; lhs; rw [hk]
      exact Int.mul_ediv_cancel_left _ (by omega)
    have e3 : b / (Int.gcd a b : Nat) = b := congrArg Prod.snd z
    rw [e2] at e3
    subst e3
    have e4 : ((Int.gcd a k : Nat) : Int) * k = 1 * k := by rw [← hk, Int.one_mul]
    have := Int.eq_of_mul_eq_mul_right (by omega) e4
    omega
theorem p__law_is_fraction (as R) (h : d__law_is_fraction as R) : as.length = 1 ∧ q__law_is_fraction { nx := fun ρ => R (.dt .none) (pwOf ρ), rt := fun r ρ => R r (pwOf ρ) } (as ++ List.replicate (N__law_is_fraction.length - 1) .un) := by
  obtain ⟨f, rfl, hza, hz, h⟩ := h
  refine ⟨rfl, ?_⟩
  unfold q__law_is_fraction frD
  have k1 : kitB "tuple" "tuple" = some true := by decide
  have k2 : kitB "int" "bool" = some false := by decide
  have k3 : kitB "int" "int" = some true := by decide
  refine seq_i (fun ρ' => ρ' = [.dt (frD f), .un]) (fun K hK => ?_) ?_
  · simp [qVar_, qC, q2, q1, qTest_, qChain_, qAnd, qOr, qNot, qAndV_, qOrV_, qNotV_, qIf, qNil, qCons, qTup, qLst, qCB, qNext, qSeq, qRet, qRetN, qRetO_, qIfS, qAsg, qAsgO_, qPar, qParO_, qPar3, qPar3O_, qFrz_, qApN_, qStN_, qIxO_, qLend, qLendT, qNoPart, qPart_, qSl, qRevL_, qIsi_, qSplit_, qJoin_, qBits_, qIL_, qIT, qR1_, qR2_, qIS_, qIE_, qgN, qgNil, qgCons_, qgT_, qFor, qLc, qYes, qCall, qCallO_, kAdd, kI0_, kI_, kMul, kB0_, kEq, kNe, kIsN, kNotN, kIn, kNin, kLen_l, kLen_t, kLen_s, kAbs_, kMax2_, kInt_i, kInt_s, kStr_, kSum, kAll_, kAny_, kNeg_, dat_dt, dat_ow, dat_pw, toDt_dt, toDt_ow, toDt_pw, toDt_un, okSlot_dt, okSlot_ow, okSlot_un, okP_dt, okP_un, ownOf_ow, ownOf_pw, isN_n, isN_b, isN_i, isN_s, isN_l, isN_t, flatD_n, flatD_b, flatD_i, flatD_s, setOwn, ixq_l_, ixq_t_, ixq_s_, slq_l, slq_s, eqq_ii, eqq_ss, eqq_ll, eqq_tt, inn_l, inn_s, wipeR, freeV, mTup_t, mBool_b, mBoolS_b, mInt_i, mStr_s, mLst_l, mOpt_s, mOw_o, mOwn_o, mI1_i, mI2_i, mL1_l, tyD, k1]
    refine lc_filter rfl (by simp; decide) rfl (fun _ => false) (fun _ => .int 1) ?_ ?_
    · intro d hd Y N hY hN
      have : ∃ i, d = .int i := by
        rcases List.mem_cons.mp hd with e | hd
        · exact ⟨_, e⟩
        · exact ⟨_, List.mem_singleton.mp hd⟩
      obtain ⟨i, rfl⟩ := this
      simp [qVar_, qC, q2, q1, qTest_, qChain_, qAnd, qOr, qNot, qAndV_, qOrV_, qNotV_, qIf, qNil, qCons, qTup, qLst, qCB, qNext, qSeq, qRet, qRetN, qRetO_, qIfS, qAsg, qAsgO_, qPar, qParO_, qPar3, qPar3O_, qFrz_, qApN_, qStN_, qIxO_, qLend, qLendT, qNoPart, qPart_, qSl, qRevL_, qIsi_, qSplit_, qJoin_, qBits_, qIL_, qIT, qR1_, qR2_, qIS_, qIE_, qgN, qgNil, qgCons_, qgT_, qFor, qLc, qYes, qCall, qCallO_, kAdd, kI0_, kI_, kMul, kB0_, kEq, kNe, kIsN, kNotN, kIn, kNin, kLen_l, kLen_t, kLen_s, kAbs_, kMax2_, kInt_i, kInt_s, kStr_, kSum, kAll_, kAny_, kNeg_, dat_dt, dat_ow, dat_pw, toDt_dt, toDt_ow, toDt_pw, toDt_un, okSlot_dt, okSlot_ow, okSlot_un, okP_dt, okP_un, ownOf_ow, ownOf_pw, isN_n, isN_b, isN_i, isN_s, isN_l, isN_t, flatD_n, flatD_b, flatD_i, flatD_s, setOwn, ixq_l_, ixq_t_, ixq_s_, slq_l, slq_s, eqq_ii, eqq_ss, eqq_ll, eqq_tt, inn_l, inn_s, wipeR, freeV, mTup_t, mBool_b, mBoolS_b, mInt_i, mStr_s, mLst_l, mOpt_s, mOw_o, mOwn_o, mI1_i, mI2_i, mL1_l, tyD, k2, k3]
      exact hN rfl
    · simp [qVar_, qC, q2, q1, qTest_, qChain_, qAnd, qOr, qNot, qAndV_, qOrV_, qNotV_, qIf, qNil, qCons, qTup, qLst, qCB, qNext, qSeq, qRet, qRetN, qRetO_, qIfS, qAsg, qAsgO_, qPar, qParO_, qPar3, qPar3O_, qFrz_, qApN_, qStN_, qIxO_, qLend, qLendT, qNoPart, qPart_, qSl, qRevL_, qIsi_, qSplit_, qJoin_, qBits_, qIL_, qIT, qR1_, qR2_, qIS_, qIE_, qgN, qgNil, qgCons_, qgT_, qFor, qLc, qYes, qCall, qCallO_, kAdd, kI0_, kI_, kMul, kB0_, kEq, kNe, kIsN, kNotN, kIn, kNin, kLen_l, kLen_t, kLen_s, kAbs_, kMax2_, kInt_i, kInt_s, kStr_, kSum, kAll_, kAny_, kNeg_, dat_dt, dat_ow, dat_pw, toDt_dt, toDt_ow, toDt_pw, toDt_un, okSlot_dt, okSlot_ow, okSlot_un, okP_dt, okP_un, ownOf_ow, ownOf_pw, isN_n, isN_b, isN_i, isN_s, isN_l, isN_t, flatD_n, flatD_b, flatD_i, flatD_s, setOwn, ixq_l_, ixq_t_, ixq_s_, slq_l, slq_s, eqq_ii, eqq_ss, eqq_ll, eqq_tt, inn_l, inn_s, wipeR, freeV, mTup_t, mBool_b, mBoolS_b, mInt_i, mStr_s, mLst_l, mOpt_s, mOw_o, mOwn_o, mI1_i, mI2_i, mL1_l, shaped_nil, eqv_nil]
      exact hK _ rfl
  rintro _ rfl
  simp [qVar_, qC, q2, q1, qTest_, qChain_, qAnd, qOr, qNot, qAndV_, qOrV_, qNotV_, qIf, qNil, qCons, qTup, qLst, qCB, qNext, qSeq, qRet, qRetN, qRetO_, qIfS, qAsg, qAsgO_, qPar, qParO_, qPar3, qPar3O_, qFrz_, qApN_, qStN_, qIxO_, qLend, qLendT, qNoPart, qPart_, qSl, qRevL_, qIsi_, qSplit_, qJoin_, qBits_, qIL_, qIT, qR1_, qR2_, qIS_, qIE_, qgN, qgNil, qgCons_, qgT_, qFor, qLc, qYes, qCall, qCallO_, kAdd, kI0_, kI_, kMul, kB0_, kEq, kNe, kIsN, kNotN, kIn, kNin, kLen_l, kLen_t, kLen_s, kAbs_, kMax2_, kInt_i, kInt_s, kStr_, kSum, kAll_, kAny_, kNeg_, dat_dt, dat_ow, dat_pw, toDt_dt, toDt_ow, toDt_pw, toDt_un, okSlot_dt, okSlot_ow, okSlot_un, okP_dt, okP_un, ownOf_ow, ownOf_pw, isN_n, isN_b, isN_i, isN_s, isN_l, isN_t, flatD_n, flatD_b, flatD_i, flatD_s, setOwn, ixq_l_, ixq_t_, ixq_s_, slq_l, slq_s, eqq_ii, eqq_ss, eqq_ll, eqq_tt, inn_l, inn_s, wipeR, freeV, mTup_t, mBool_b, mBoolS_b, mInt_i, mStr_s, mLst_l, mOpt_s, mOw_o, mOwn_o, mI1_i, mI2_i, mL1_l, frD, ix0, ix1]
  by_cases h0 : 0 < f.2
  · simp [h0]
    refine ⟨_, _, rfl, h0, hza, hz, fun ys => ?_⟩
    have e0 : PyData.tuple [PyData.int f.1, PyData.int f.2] = frD f := rfl
    simp only [dat_dt, e0, eqq_fr]
    refine ⟨shaped_low, shaped_low, ?_⟩
    rw [eqv_frD, low_self h0]
    exact h.at (by simp [h0])
  · simp [h0]
    exact h.at (by simp [h0])
def dFrc : PyData → Bool | .tuple [.int a, .int b] => decide (0 < b) && copr (a, b) | _ => false
theorem none_bad : ∀ r : List Fr, ((r.map frD).filter fun d => !dFrc d).isEmpty = r.all fun f => decide (0 < f.2) && copr f
  | [] => rfl
  | f :: r => by
    have ih := none_bad r
    have e : dFrc (frD f) = (decide (0 < f.2) && copr f) := rfl
    cases hq : (decide (0 < f.2) && copr f)
    · rw [List.map_cons, List.filter_cons, if_pos (by rw [e, hq]; rfl), List.all_cons, hq]
      rfl
    · rw [List.map_cons, List.filter_cons, if_neg (by rw [e, hq]; decide), List.all_cons, hq, ih]
      rfl
theorem shq_frs {r : List Fr} : ∀ d ∈ r.map frD, shq 1 d := fun d hd => by
  obtain ⟨f, _, rfl⟩ := List.mem_map.mp hd
  exact shq_fr
theorem p__law_is_row (as R) (h : d__law_is_row as R) : as.length = 2 ∧ q__law_is_row { nx := fun ρ => R (.dt .none) (pwOf ρ), rt := fun r ρ => R r (pwOf ρ) } (as ++ List.replicate (N__law_is_row.length - 2) .un) := by
  obtain ⟨r, many, rfl, hz, hb, h⟩ := h
  refine ⟨rfl, ?_⟩
  unfold q__law_is_row rowD
  have k1 : kitB "list" "list" = some true := by decide
  simp [qVar_, qC, q2, q1, qTest_, qChain_, qAnd, qOr, qNot, qAndV_, qOrV_, qNotV_, qIf, qNil, qCons, qTup, qLst, qCB, qNext, qSeq, qRet, qRetN, qRetO_, qIfS, qAsg, qAsgO_, qPar, qParO_, qPar3, qPar3O_, qFrz_, qApN_, qStN_, qIxO_, qLend, qLendT, qNoPart, qPart_, qSl, qRevL_, qIsi_, qSplit_, qJoin_, qBits_, qIL_, qIT, qR1_, qR2_, qIS_, qIE_, qgN, qgNil, qgCons_, qgT_, qFor, qLc, qYes, qCall, qCallO_, kAdd, kI0_, kI_, kMul, kB0_, kEq, kNe, kIsN, kNotN, kIn, kNin, kLen_l, kLen_t, kLen_s, kAbs_, kMax2_, kInt_i, kInt_s, kStr_, kSum, kAll_, kAny_, kNeg_, dat_dt, dat_ow, dat_pw, toDt_dt, toDt_ow, toDt_pw, toDt_un, okSlot_dt, okSlot_ow, okSlot_un, okP_dt, okP_un, ownOf_ow, ownOf_pw, isN_n, isN_b, isN_i, isN_s, isN_l, isN_t, flatD_n, flatD_b, flatD_i, flatD_s, setOwn, ixq_l_, ixq_t_, ixq_s_, slq_l, slq_s, eqq_ii, eqq_ss, eqq_ll, eqq_tt, inn_l, inn_s, wipeR, freeV, mTup_t, mBool_b, mBoolS_b, mInt_i, mStr_s, mLst_l, mOpt_s, mOw_o, mOwn_o, mI1_i, mI2_i, mL1_l, tyD, k1]
  by_cases hm : (r.length : Int) = many
  · simp [hm]
    refine lc_filter rfl (by simpa using hz) rfl (fun d => !dFrc d) id ?_ ?_
    · intro d hd Y N hY hN
      obtain ⟨f, hf, rfl⟩ := List.mem_map.mp hd
      have e : dFrc (frD f) = (decide (0 < f.2) && copr f) := rfl
      simp [qVar_, qC, q2, q1, qTest_, qChain_, qAnd, qOr, qNot, qAndV_, qOrV_, qNotV_, qIf, qNil, qCons, qTup, qLst, qCB, qNext, qSeq, qRet, qRetN, qRetO_, qIfS, qAsg, qAsgO_, qPar, qParO_, qPar3, qPar3O_, qFrz_, qApN_, qStN_, qIxO_, qLend, qLendT, qNoPart, qPart_, qSl, qRevL_, qIsi_, qSplit_, qJoin_, qBits_, qIL_, qIT, qR1_, qR2_, qIS_, qIE_, qgN, qgNil, qgCons_, qgT_, qFor, qLc, qYes, qCall, qCallO_, kAdd, kI0_, kI_, kMul, kB0_, kEq, kNe, kIsN, kNotN, kIn, kNin, kLen_l, kLen_t, kLen_s, kAbs_, kMax2_, kInt_i, kInt_s, kStr_, kSum, kAll_, kAny_, kNeg_, dat_dt, dat_ow, dat_pw, toDt_dt, toDt_ow, toDt_pw, toDt_un, okSlot_dt, okSlot_ow, okSlot_un, okP_dt, okP_un, ownOf_ow, ownOf_pw, isN_n, isN_b, isN_i, isN_s, isN_l, isN_t, flatD_n, flatD_b, flatD_i, flatD_s, setOwn, ixq_l_, ixq_t_, ixq_s_, slq_l, slq_s, eqq_ii, eqq_ss, eqq_ll, eqq_tt, inn_l, inn_s, wipeR, freeV, mTup_t, mBool_b, mBoolS_b, mInt_i, mStr_s, mLst_l, mOpt_s, mOw_o, mOwn_o, mI1_i, mI2_i, mL1_l]
      refine ⟨f, rfl, (hb f hf).1, (hb f hf).2, fun ys => ?_⟩
      rw [e] at hY hN
      simp only [dat_dt, mBool_b]
      cases hq : (decide (0 < f.2) && copr f)
      · rw [hq] at hY
        simp
        exact hY rfl
      · rw [hq] at hN
        simp
        exact hN rfl
    · simp [qVar_, qC, q2, q1, qTest_, qChain_, qAnd, qOr, qNot, qAndV_, qOrV_, qNotV_, qIf, qNil, qCons, qTup, qLst, qCB, qNext, qSeq, qRet, qRetN, qRetO_, qIfS, qAsg, qAsgO_, qPar, qParO_, qPar3, qPar3O_, qFrz_, qApN_, qStN_, qIxO_, qLend, qLendT, qNoPart, qPart_, qSl, qRevL_, qIsi_, qSplit_, qJoin_, qBits_, qIL_, qIT, qR1_, qR2_, qIS_, qIE_, qgN, qgNil, qgCons_, qgT_, qFor, qLc, qYes, qCall, qCallO_, kAdd, kI0_, kI_, kMul, kB0_, kEq, kNe, kIsN, kNotN, kIn, kNin, kLen_l, kLen_t, kLen_s, kAbs_, kMax2_, kInt_i, kInt_s, kStr_, kSum, kAll_, kAny_, kNeg_, dat_dt, dat_ow, dat_pw, toDt_dt, toDt_ow, toDt_pw, toDt_un, okSlot_dt, okSlot_ow, okSlot_un, okP_dt, okP_un, ownOf_ow, ownOf_pw, isN_n, isN_b, isN_i, isN_s, isN_l, isN_t, flatD_n, flatD_b, flatD_i, flatD_s, setOwn, ixq_l_, ixq_t_, ixq_s_, slq_l, slq_s, eqq_ii, eqq_ss, eqq_ll, eqq_tt, inn_l, inn_s, wipeR, freeV, mTup_t, mBool_b, mBoolS_b, mInt_i, mStr_s, mLst_l, mOpt_s, mOw_o, mOwn_o, mI1_i, mI2_i, mL1_l, shaped_nil]
      refine ⟨(shq_list (n := 1) fun x hx => shq_frs x (List.mem_filter.mp hx).1).ok, ?_⟩
      rw [eqv_nil, none_bad]
      exact h.at (by simp [hm])
  · simp [hm]
    exact h.at (by simp [hm])
theorem p__law_alike (as R) (h : d__law_alike as R) : as.length = 2 ∧ q__law_alike { nx := fun ρ => R (.dt .none) (pwOf ρ), rt := fun r ρ => R r (pwOf ρ) } (as ++ List.replicate (N__law_alike.length - 2) .un) := by
  obtain ⟨x, y, rfl, hl, hn, hx, hy, h⟩ := h
  refine ⟨rfl, ?_⟩
  unfold q__law_alike
  simp [qVar_, qC, q2, q1, qTest_, qChain_, qAnd, qOr, qNot, qAndV_, qOrV_, qNotV_, qIf, qNil, qCons, qTup, qLst, qCB, qNext, qSeq, qRet, qRetN, qRetO_, qIfS, qAsg, qAsgO_, qPar, qParO_, qPar3, qPar3O_, qFrz_, qApN_, qStN_, qIxO_, qLend, qLendT, qNoPart, qPart_, qSl, qRevL_, qIsi_, qSplit_, qJoin_, qBits_, qIL_, qIT, qR1_, qR2_, qIS_, qIE_, qgN, qgNil, qgCons_, qgT_, qFor, qLc, qYes, qCall, qCallO_, kAdd, kI0_, kI_, kMul, kB0_, kEq, kNe, kIsN, kNotN, kIn, kNin, kLen_l, kLen_t, kLen_s, kAbs_, kMax2_, kInt_i, kInt_s, kStr_, kSum, kAll_, kAny_, kNeg_, dat_dt, dat_ow, dat_pw, toDt_dt, toDt_ow, toDt_pw, toDt_un, okSlot_dt, okSlot_ow, okSlot_un, okP_dt, okP_un, ownOf_ow, ownOf_pw, isN_n, isN_b, isN_i, isN_s, isN_l, isN_t, flatD_n, flatD_b, flatD_i, flatD_s, setOwn, ixq_l_, ixq_t_, ixq_s_, slq_l, slq_s, eqq_ii, eqq_ss, eqq_ll, eqq_tt, inn_l, inn_s, wipeR, freeV, mTup_t, mBool_b, mBoolS_b, mInt_i, mStr_s, mLst_l, mOpt_s, mOw_o, mOwn_o, mI1_i, mI2_i, mL1_l, rowD]
  refine ⟨by omega, ?_⟩
  refine ⟨fun i ρ => ∃ s1 s2 : SD, okP (some s1) = true ∧ okP (some s2) = true ∧ ρ = [.dt (rowD x), .dt (rowD y), s1, s2] ∧ ∀ e l : Nat, e < i → l < e → mulF (at0 y l) (at0 x e) = mulF (at0 y e) (at0 x l), ⟨.un, .un, rfl, rfl, rfl, fun e l h1 => absurd h1 (Nat.not_lt_zero _)⟩, ?_, ?_⟩
  · rintro i d _ hd ⟨s1, s2, o1, o2, rfl, hI⟩
    obtain ⟨hi, rfl⟩ := rngD_get hd
    simp only [Int.zero_add] at *
    have ok1 : okP ([SD.dt (rowD x), SD.dt (rowD y), s1, s2][2]?) = true := o1
    refine ⟨ok1, ?_⟩
    simp [qVar_, qC, q2, q1, qTest_, qChain_, qAnd, qOr, qNot, qAndV_, qOrV_, qNotV_, qIf, qNil, qCons, qTup, qLst, qCB, qNext, qSeq, qRet, qRetN, qRetO_, qIfS, qAsg, qAsgO_, qPar, qParO_, qPar3, qPar3O_, qFrz_, qApN_, qStN_, qIxO_, qLend, qLendT, qNoPart, qPart_, qSl, qRevL_, qIsi_, qSplit_, qJoin_, qBits_, qIL_, qIT, qR1_, qR2_, qIS_, qIE_, qgN, qgNil, qgCons_, qgT_, qFor, qLc, qYes, qCall, qCallO_, kAdd, kI0_, kI_, kMul, kB0_, kEq, kNe, kIsN, kNotN, kIn, kNin, kLen_l, kLen_t, kLen_s, kAbs_, kMax2_, kInt_i, kInt_s, kStr_, kSum, kAll_, kAny_, kNeg_, dat_dt, dat_ow, dat_pw, toDt_dt, toDt_ow, toDt_pw, toDt_un, okSlot_dt, okSlot_ow, okSlot_un, okP_dt, okP_un, ownOf_ow, ownOf_pw, isN_n, isN_b, isN_i, isN_s, isN_l, isN_t, flatD_n, flatD_b, flatD_i, flatD_s, setOwn, ixq_l_, ixq_t_, ixq_s_, slq_l, slq_s, eqq_ii, eqq_ss, eqq_ll, eqq_tt, inn_l, inn_s, wipeR, freeV, mTup_t, mBool_b, mBoolS_b, mInt_i, mStr_s, mLst_l, mOpt_s, mOw_o, mOwn_o, mI1_i, mI2_i, mL1_l, rowD]
    refine ⟨by omega, ?_⟩
    refine ⟨fun j ρ => ∃ s2 : SD, okP (some s2) = true ∧ ρ = [.dt (rowD x), .dt (rowD y), .dt (.int i), s2] ∧ ∀ l : Nat, l < j → mulF (at0 y l) (at0 x i) = mulF (at0 y i) (at0 x l), ⟨s2, o2, rfl, fun l h1 => absurd h1 (Nat.not_lt_zero _)⟩, ?_, ?_⟩
    · rintro j d _ hd ⟨s2, o2, rfl, hJ⟩
      obtain ⟨hj, rfl⟩ := rngD_get hd
      have ok2 : okP ([SD.dt (rowD x), SD.dt (rowD y), SD.dt (.int i), s2][3]?) = true := o2
      refine ⟨ok2, ?_⟩
      simp only [Int.zero_add]
      simp [qVar_, qC, q2, q1, qTest_, qChain_, qAnd, qOr, qNot, qAndV_, qOrV_, qNotV_, qIf, qNil, qCons, qTup, qLst, qCB, qNext, qSeq, qRet, qRetN, qRetO_, qIfS, qAsg, qAsgO_, qPar, qParO_, qPar3, qPar3O_, qFrz_, qApN_, qStN_, qIxO_, qLend, qLendT, qNoPart, qPart_, qSl, qRevL_, qIsi_, qSplit_, qJoin_, qBits_, qIL_, qIT, qR1_, qR2_, qIS_, qIE_, qgN, qgNil, qgCons_, qgT_, qFor, qLc, qYes, qCall, qCallO_, kAdd, kI0_, kI_, kMul, kB0_, kEq, kNe, kIsN, kNotN, kIn, kNin, kLen_l, kLen_t, kLen_s, kAbs_, kMax2_, kInt_i, kInt_s, kStr_, kSum, kAll_, kAny_, kNeg_, dat_dt, dat_ow, dat_pw, toDt_dt, toDt_ow, toDt_pw, toDt_un, okSlot_dt, okSlot_ow, okSlot_un, okP_dt, okP_un, ownOf_ow, ownOf_pw, isN_n, isN_b, isN_i, isN_s, isN_l, isN_t, flatD_n, flatD_b, flatD_i, flatD_s, setOwn, ixq_l_, ixq_t_, ixq_s_, slq_l, slq_s, eqq_ii, eqq_ss, eqq_ll, eqq_tt, inn_l, inn_s, wipeR, freeV, mTup_t, mBool_b, mBoolS_b, mInt_i, mStr_s, mLst_l, mOpt_s, mOw_o, mOwn_o, mI1_i, mI2_i, mL1_l, rowD]
      rw [at0_get hi, at0_get (r := y) (i := j) (by omega)]
      simp only [mOpt_s]
      refine ⟨_, _, rfl, hx _ (at0_mem hi), hy _ (at0_mem (by omega)), fun ys => ?_⟩
      rw [at0_get (r := x) (i := j) (by omega), at0_get (r := y) (i := i) (by omega)]
      simp only [mOpt_s]
      refine ⟨_, _, rfl, hx _ (at0_mem (by omega)), hy _ (at0_mem (by omega)), fun ys => ?_⟩
      simp only [dat_dt, eqq_fr]
      refine ⟨shaped_low, shaped_low, ?_⟩
      rw [eqv_frD]
      have cm : ∀ u v : Fr, mulF u v = mulF v u := fun u v => by unfold mulF; rw [Int.mul_comm u.1, Int.mul_comm u.2]
      rw [cm (at0 x i), cm (at0 x j)]
      by_cases hq : mulF (at0 y j) (at0 x i) = mulF (at0 y i) (at0 x j)
      · simp [hq]
        refine ⟨.dt (.int j), rfl, rfl, fun l h1 => ?_⟩
        by_cases hlt : l < j
        · exact hJ l hlt
        · have : l = j := by omega
          subst this
          exact hq
      · simp [hq]
        refine h.at ?_
        have : sameR y x = false := by
          cases hs : sameR y x
          · rfl
          · exact absurd (sameR_iff.mp hs j i (by omega) (by omega)) hq
        rw [this]
    · rintro _ ⟨s2, o2, rfl, hJ⟩
      rw [rngD_len] at hJ
      refine ⟨.dt (.int i), rfl, s2, o2, rfl, fun e l h1 h2 => ?_⟩
      by_cases he : e < i
      · exact hI e l he h2
      · have : e = i := by omega
        subst this
        exact hJ l (by omega)
  · rintro _ ⟨s1, s2, o1, o2, rfl, hI⟩
    rw [rngD_len] at hI
    simp [qVar, qC, q2, q1, qTest, qChain, qAnd, qOr, qNot, qAndV, qOrV, qNotV, qIf, qNil, qCons, qTup, qLst, qCB, qNext, qSeq, qRet, qRetN, qRetO, qIfS, qAsg, qAsgO, qPar, qParO, qPar3, qPar3O, qFrz, qApN, qApp, qStN, qIxO, qLend, qLendT, qNoPart, qPart, qSl, qRevL, qIsi, qSplit, qJoin, qBits, qIL, qIT, qR1, qR2, qIS, qIE, qgN, qgNil, qgCons, qgT, qFor, qLc, qYes, qCall, qCallO, kAdd, kSub, kI0, kI, kMul, kFdiv, kMod, kPow, kLt, kLe, kGt, kGe, kB0, kEq, kNe, kIsN, kNotN, kIn, kNin, kLen, kAbs, kMax2, kInt, kStr, kSum, kAll_, kAny_, kNeg, isN, SD.dat, SD.toDt, okSlot, okP, DL.ownOf, setOwn, flatD, ixq_l, ixq_t, ixq_s, slq_l, slq_s, eqq_ii, eqq_ss, eqq_ll, eqq_tt, inn_l, inn_s, wipeR, freeV]
    refine h.at ?_
    rw [sameR_iff.mpr fun e l h1 h2 => hI l e (by omega) h1]
def unF : PyData → Fr | .tuple [.int a, .int b] => (a, b) | _ => (0, 0)
def unR : PyData → List Fr | .list xs => xs.map unF | _ => []
theorem unR_rowD (r : List Fr) : unR (rowD r) = r := by
  show (r.map frD).map unF = r
  rw [List.map_map]
  conv => rhs; rw [← List.map_id r]
  rfl
theorem top_zero : ∀ r : List Fr, ((r.map frD).filter fun d => !decide ((unF d).1 = 0)).isEmpty = !(r.any fun f => decide (f.1 ≠ 0))
  | [] => rfl
  | f :: r => by
    have ih := top_zero r
    have e : (unF (frD f)) = f := rfl
    by_cases hq : f.1 = 0
    · rw [List.map_cons, List.filter_cons, if_neg (by rw [e]; simp [hq]), List.any_cons, ih]
      simp [hq]
    · rw [List.map_cons, List.filter_cons, if_pos (by rw [e]; simp [hq]), List.any_cons]
      simp [hq]
theorem alike_none (r : List Fr) : ∀ rows : List (List Fr), ((rows.map rowD).filter fun d => sameR (unR d) r).isEmpty = rows.all fun o => !sameR o r
  | [] => rfl
  | o :: rows => by
    have ih := alike_none r rows
    cases hq : sameR o r
    · rw [List.map_cons, List.filter_cons, if_neg (by rw [unR_rowD, hq]; decide), List.all_cons, ih, hq]
      rfl
    · rw [List.map_cons, List.filter_cons, if_pos (by rw [unR_rowD, hq]), List.all_cons, hq]
      rfl
theorem shq_rows {rs : List (List Fr)} : ∀ d ∈ rs.map rowD, shq 2 d := fun d hd => by
  obtain ⟨f, _, rfl⟩ := List.mem_map.mp hd
  exact shq_list shq_frs
theorem mLst_rows {rows : List (List Fr)} {f : List PyData → Prop} : mLst (rowsD rows) f = f (rows.map rowD) := rfl
theorem kLen_rows {rows : List (List Fr)} {q : SD → Prop} : kLen [rowsD rows] q = q (.dt (.int rows.length)) := by
  unfold rowsD
  rw [kLen_l, List.length_map]
theorem p__law_can_put (as R) (h : d__law_can_put as R) : as.length = 2 ∧ q__law_can_put { nx := fun ρ => R (.dt .none) (pwOf ρ), rt := fun r ρ => R r (pwOf ρ) } (as ++ List.replicate (N__law_can_put.length - 2) .un) := by
  obtain ⟨md, m, rows, r, rfl, hm, h8, hrows, hz, hr, h⟩ := h
  refine ⟨rfl, ?_⟩
  unfold q__law_can_put
  have p1 : atI [md, PyData.int m, rowsD rows] 1 = some (.int m) := rfl
  have p2 : atI [md, PyData.int m, rowsD rows] 2 = some (rowsD rows) := rfl
  have ca : (r.all fun f => decide (0 < f.2) && copr f) = true := List.all_eq_true.mpr fun f hf => by simp [(hr f hf).1.2.1, (hr f hf).2]
  have h8' : rows.length ≤ sizeLine := by
    have : 8 ≤ sizeLine := by decide
    omega
  have no : ∀ {b : Bool}, b = (okRow m r && decide (rows.length ≠ 8)) → b = false → canF m rows r = false := fun {b} e e2 => by
    unfold canF
    rw [← e, e2]
    rfl
  refine seq_i (fun ρ' => (okRow m r && decide (rows.length ≠ 8)) = true ∧ ρ' = [.dt (.tuple [md, .int m, rowsD rows]), .dt (rowD r), .un, .un]) (fun K hK => ?_) ?_
  · refine ifs_i (fun b ρ' => b = !(okRow m r && decide (rows.length ≠ 8)) ∧ ρ' = [.dt (.tuple [md, .int m, rowsD rows]), .dt (rowD r), .un, .un]) (fun K hK => ?_) ?_ ?_
    · simp [qVar_, qC, q2, q1, qTest_, qChain_, qAnd, qOr, qNot, qAndV_, qOrV_, qNotV_, qIf, qNil, qCons, qTup, qLst, qCB, qNext, qSeq, qRet, qRetN, qRetO_, qIfS, qAsg, qAsgO_, qPar, qParO_, qPar3, qPar3O_, qFrz_, qApN_, qStN_, qIxO_, qLend, qLendT, qNoPart, qPart_, qSl, qRevL_, qIsi_, qSplit_, qJoin_, qBits_, qIL_, qIT, qR1_, qR2_, qIS_, qIE_, qgN, qgNil, qgCons_, qgT_, qFor, qLc, qYes, qCall, qCallO_, kAdd, kI0_, kI_, kMul, kB0_, kEq, kNe, kIsN, kNotN, kIn, kNin, kLen_l, kLen_t, kLen_s, kAbs_, kMax2_, kInt_i, kInt_s, kStr_, kSum, kAll_, kAny_, kNeg_, dat_dt, dat_ow, dat_pw, toDt_dt, toDt_ow, toDt_pw, toDt_un, okSlot_dt, okSlot_ow, okSlot_un, okP_dt, okP_un, ownOf_ow, ownOf_pw, isN_n, isN_b, isN_i, isN_s, isN_l, isN_t, flatD_n, flatD_b, flatD_i, flatD_s, setOwn, ixq_l_, ixq_t_, ixq_s_, slq_l, slq_s, eqq_ii, eqq_ss, eqq_ll, eqq_tt, inn_l, inn_s, wipeR, freeV, mTup_t, mBool_b, mBoolS_b, mInt_i, mStr_s, mLst_l, mOpt_s, mOw_o, mOwn_o, mI1_i, mI2_i, mL1_l, p1, p2]
      refine ⟨r, _, rfl, hz, fun f hf => ⟨ten9 (hr f hf).1.1, ten9 (hr f hf).1.2.2⟩, fun ys => ?_⟩
      simp only [dat_dt, mBool_b]
      rw [ca, Bool.and_true]
      by_cases hl : r.length = m + 1
      · have hl' : (r.length : Int) = m + 1 := by omega
        rw [decide_eq_true hl']
        simp [rowD]
        simp [qVar_, qC, q2, q1, qTest_, qChain_, qAnd, qOr, qNot, qAndV_, qOrV_, qNotV_, qIf, qNil, qCons, qTup, qLst, qCB, qNext, qSeq, qRet, qRetN, qRetO_, qIfS, qAsg, qAsgO_, qPar, qParO_, qPar3, qPar3O_, qFrz_, qApN_, qStN_, qIxO_, qLend, qLendT, qNoPart, qPart_, qSl, qRevL_, qIsi_, qSplit_, qJoin_, qBits_, qIL_, qIT, qR1_, qR2_, qIS_, qIE_, qgN, qgNil, qgCons_, qgT_, qFor, qLc, qYes, qCall, qCallO_, kAdd, kI0_, kI_, kMul, kB0_, kEq, kNe, kIsN, kNotN, kIn, kNin, kLen_l, kLen_t, kLen_s, kAbs_, kMax2_, kInt_i, kInt_s, kStr_, kSum, kAll_, kAny_, kNeg_, dat_dt, dat_ow, dat_pw, toDt_dt, toDt_ow, toDt_pw, toDt_un, okSlot_dt, okSlot_ow, okSlot_un, okP_dt, okP_un, ownOf_ow, ownOf_pw, isN_n, isN_b, isN_i, isN_s, isN_l, isN_t, flatD_n, flatD_b, flatD_i, flatD_s, setOwn, ixq_l_, ixq_t_, ixq_s_, slq_l, slq_s, eqq_ii, eqq_ss, eqq_ll, eqq_tt, inn_l, inn_s, wipeR, freeV, mTup_t, mBool_b, mBoolS_b, mInt_i, mStr_s, mLst_l, mOpt_s, mOw_o, mOwn_o, mI1_i, mI2_i, mL1_l]
        have hne : r.map frD ≠ [] := by
          intro z
          have := congrArg List.length z
          simp at this
          rw [this] at hl
          simp at hl
        rw [cutD_last hne, ← List.map_dropLast]
        refine lc_filter rfl (by simp; omega) rfl (fun d => !decide ((unF d).1 = 0)) id ?_ ?_
        · intro d hd Y N hY hN
          obtain ⟨f, hf, rfl⟩ := List.mem_map.mp hd
          have e : unF (frD f) = f := rfl
          rw [e] at hY hN
          simp [qVar_, qC, q2, q1, qTest_, qChain_, qAnd, qOr, qNot, qAndV_, qOrV_, qNotV_, qIf, qNil, qCons, qTup, qLst, qCB, qNext, qSeq, qRet, qRetN, qRetO_, qIfS, qAsg, qAsgO_, qPar, qParO_, qPar3, qPar3O_, qFrz_, qApN_, qStN_, qIxO_, qLend, qLendT, qNoPart, qPart_, qSl, qRevL_, qIsi_, qSplit_, qJoin_, qBits_, qIL_, qIT, qR1_, qR2_, qIS_, qIE_, qgN, qgNil, qgCons_, qgT_, qFor, qLc, qYes, qCall, qCallO_, kAdd, kI0_, kI_, kMul, kB0_, kEq, kNe, kIsN, kNotN, kIn, kNin, kLen_l, kLen_t, kLen_s, kAbs_, kMax2_, kInt_i, kInt_s, kStr_, kSum, kAll_, kAny_, kNeg_, dat_dt, dat_ow, dat_pw, toDt_dt, toDt_ow, toDt_pw, toDt_un, okSlot_dt, okSlot_ow, okSlot_un, okP_dt, okP_un, ownOf_ow, ownOf_pw, isN_n, isN_b, isN_i, isN_s, isN_l, isN_t, flatD_n, flatD_b, flatD_i, flatD_s, setOwn, ixq_l_, ixq_t_, ixq_s_, slq_l, slq_s, eqq_ii, eqq_ss, eqq_ll, eqq_tt, inn_l, inn_s, wipeR, freeV, mTup_t, mBool_b, mBoolS_b, mInt_i, mStr_s, mLst_l, mOpt_s, mOw_o, mOwn_o, mI1_i, mI2_i, mL1_l, frD, ix0]
          by_cases hq : f.1 = 0
          · simp [hq] at hN ⊢
            exact hN
          · simp [hq] at hY ⊢
            exact hY
        · simp [qVar_, qC, q2, q1, qTest_, qChain_, qAnd, qOr, qNot, qAndV_, qOrV_, qNotV_, qIf, qNil, qCons, qTup, qLst, qCB, qNext, qSeq, qRet, qRetN, qRetO_, qIfS, qAsg, qAsgO_, qPar, qParO_, qPar3, qPar3O_, qFrz_, qApN_, qStN_, qIxO_, qLend, qLendT, qNoPart, qPart_, qSl, qRevL_, qIsi_, qSplit_, qJoin_, qBits_, qIL_, qIT, qR1_, qR2_, qIS_, qIE_, qgN, qgNil, qgCons_, qgT_, qFor, qLc, qYes, qCall, qCallO_, kAdd, kI0_, kI_, kMul, kB0_, kEq, kNe, kIsN, kNotN, kIn, kNin, kLen_l, kLen_t, kLen_s, kAbs_, kMax2_, kInt_i, kInt_s, kStr_, kSum, kAll_, kAny_, kNeg_, dat_dt, dat_ow, dat_pw, toDt_dt, toDt_ow, toDt_pw, toDt_un, okSlot_dt, okSlot_ow, okSlot_un, okP_dt, okP_un, ownOf_ow, ownOf_pw, isN_n, isN_b, isN_i, isN_s, isN_l, isN_t, flatD_n, flatD_b, flatD_i, flatD_s, setOwn, ixq_l_, ixq_t_, ixq_s_, slq_l, slq_s, eqq_ii, eqq_ss, eqq_ll, eqq_tt, inn_l, inn_s, wipeR, freeV, mTup_t, mBool_b, mBoolS_b, mInt_i, mStr_s, mLst_l, mOpt_s, mOw_o, mOwn_o, mI1_i, mI2_i, mL1_l, shaped_nil]
          rw [← List.map_dropLast]
          refine ⟨(shq_list (n := 1) fun x hx => shq_frs x (List.mem_filter.mp hx).1).ok, ?_⟩
          rw [eqv_nil, top_zero]
          have hok : okRow m r = (r.dropLast).any fun f => decide (f.1 ≠ 0) := by
            unfold okRow
            rw [decide_eq_true hl, Bool.true_and, List.dropLast_eq_take, show r.length - 1 = m by omega]
          rw [← hok]
          cases ho : okRow m r
          · simp
            rw [ho] at hK
            exact hK _ _ ⟨by simp, rfl⟩
          · rw [ho] at hK
            simp [qVar_, qC, q2, q1, qTest_, qChain_, qAnd, qOr, qNot, qAndV_, qOrV_, qNotV_, qIf, qNil, qCons, qTup, qLst, qCB, qNext, qSeq, qRet, qRetN, qRetO_, qIfS, qAsg, qAsgO_, qPar, qParO_, qPar3, qPar3O_, qFrz_, qApN_, qStN_, qIxO_, qLend, qLendT, qNoPart, qPart_, qSl, qRevL_, qIsi_, qSplit_, qJoin_, qBits_, qIL_, qIT, qR1_, qR2_, qIS_, qIE_, qgN, qgNil, qgCons_, qgT_, qFor, qLc, qYes, qCall, qCallO_, kAdd, kI0_, kI_, kMul, kB0_, kEq, kNe, kIsN, kNotN, kIn, kNin, kLen_l, kLen_t, kLen_s, kAbs_, kMax2_, kInt_i, kInt_s, kStr_, kSum, kAll_, kAny_, kNeg_, dat_dt, dat_ow, dat_pw, toDt_dt, toDt_ow, toDt_pw, toDt_un, okSlot_dt, okSlot_ow, okSlot_un, okP_dt, okP_un, ownOf_ow, ownOf_pw, isN_n, isN_b, isN_i, isN_s, isN_l, isN_t, flatD_n, flatD_b, flatD_i, flatD_s, setOwn, ixq_l_, ixq_t_, ixq_s_, slq_l, slq_s, eqq_ii, eqq_ss, eqq_ll, eqq_tt, inn_l, inn_s, wipeR, freeV, mTup_t, mBool_b, mBoolS_b, mInt_i, mStr_s, mLst_l, mOpt_s, mOw_o, mOwn_o, mI1_i, mI2_i, mL1_l, p2, kLen_rows]
            by_cases h7 : 7 < rows.length
            · have h7' : (7 : Int) < rows.length := by omega
              rw [decide_eq_true h7']
              exact hK _ _ ⟨by simp; omega, rfl⟩
            · have h7' : ¬ (7 : Int) < rows.length := by omega
              rw [decide_eq_false h7']
              exact hK _ _ ⟨by simp; omega, rfl⟩
      · have hl' : ¬ (r.length : Int) = m + 1 := by omega
        rw [decide_eq_false hl']
        simp
        exact hK _ _ ⟨by simp [okRow, hl], rfl⟩
    · rintro _ ⟨hb, rfl⟩
      simp [qVar_, qC, q2, q1, qTest_, qChain_, qAnd, qOr, qNot, qAndV_, qOrV_, qNotV_, qIf, qNil, qCons, qTup, qLst, qCB, qNext, qSeq, qRet, qRetN, qRetO_, qIfS, qAsg, qAsgO_, qPar, qParO_, qPar3, qPar3O_, qFrz_, qApN_, qStN_, qIxO_, qLend, qLendT, qNoPart, qPart_, qSl, qRevL_, qIsi_, qSplit_, qJoin_, qBits_, qIL_, qIT, qR1_, qR2_, qIS_, qIE_, qgN, qgNil, qgCons_, qgT_, qFor, qLc, qYes, qCall, qCallO_, kAdd, kI0_, kI_, kMul, kB0_, kEq, kNe, kIsN, kNotN, kIn, kNin, kLen_l, kLen_t, kLen_s, kAbs_, kMax2_, kInt_i, kInt_s, kStr_, kSum, kAll_, kAny_, kNeg_, dat_dt, dat_ow, dat_pw, toDt_dt, toDt_ow, toDt_pw, toDt_un, okSlot_dt, okSlot_ow, okSlot_un, okP_dt, okP_un, ownOf_ow, ownOf_pw, isN_n, isN_b, isN_i, isN_s, isN_l, isN_t, flatD_n, flatD_b, flatD_i, flatD_s, setOwn, ixq_l_, ixq_t_, ixq_s_, slq_l, slq_s, eqq_ii, eqq_ss, eqq_ll, eqq_tt, inn_l, inn_s, wipeR, freeV, mTup_t, mBool_b, mBoolS_b, mInt_i, mStr_s, mLst_l, mOpt_s, mOw_o, mOwn_o, mI1_i, mI2_i, mL1_l]
      refine h.at ?_
      rw [no rfl (by cases hq : (okRow m r && decide (rows.length ≠ 8)); rfl; rw [hq] at hb; cases hb)]
    · rintro _ ⟨hb, rfl⟩
      refine hK _ ⟨?_, rfl⟩
      cases hq : (okRow m r && decide (rows.length ≠ 8))
      · rw [hq] at hb; cases hb
      · rfl
  · rintro _ ⟨hb, rfl⟩
    have hlr : r.length = m + 1 := by
      have := (Bool.and_eq_true_iff.mp hb).1
      unfold okRow at this
      exact of_decide_eq_true (Bool.and_eq_true_iff.mp this).1
    simp [qVar_, qC, q2, q1, qTest_, qChain_, qAnd, qOr, qNot, qAndV_, qOrV_, qNotV_, qIf, qNil, qCons, qTup, qLst, qCB, qNext, qSeq, qRet, qRetN, qRetO_, qIfS, qAsg, qAsgO_, qPar, qParO_, qPar3, qPar3O_, qFrz_, qApN_, qStN_, qIxO_, qLend, qLendT, qNoPart, qPart_, qSl, qRevL_, qIsi_, qSplit_, qJoin_, qBits_, qIL_, qIT, qR1_, qR2_, qIS_, qIE_, qgN, qgNil, qgCons_, qgT_, qFor, qLc, qYes, qCall, qCallO_, kAdd, kI0_, kI_, kMul, kB0_, kEq, kNe, kIsN, kNotN, kIn, kNin, kLen_l, kLen_t, kLen_s, kAbs_, kMax2_, kInt_i, kInt_s, kStr_, kSum, kAll_, kAny_, kNeg_, dat_dt, dat_ow, dat_pw, toDt_dt, toDt_ow, toDt_pw, toDt_un, okSlot_dt, okSlot_ow, okSlot_un, okP_dt, okP_un, ownOf_ow, ownOf_pw, isN_n, isN_b, isN_i, isN_s, isN_l, isN_t, flatD_n, flatD_b, flatD_i, flatD_s, setOwn, ixq_l_, ixq_t_, ixq_s_, slq_l, slq_s, eqq_ii, eqq_ss, eqq_ll, eqq_tt, inn_l, inn_s, wipeR, freeV, mTup_t, mBool_b, mBoolS_b, mInt_i, mStr_s, mLst_l, mOpt_s, mOw_o, mOwn_o, mI1_i, mI2_i, mL1_l, p2, mLst_rows]
    refine lc_filter (xs := rows.map rowD) rfl (by simpa using h8') rfl (fun d => sameR (unR d) r) id ?_ ?_
    · intro d hd Y N hY hN
      obtain ⟨x, hx, rfl⟩ := List.mem_map.mp hd
      obtain ⟨q1, q2⟩ := hrows x hx
      rw [unR_rowD] at hY hN
      simp [qVar_, qC, q2, q1, qTest_, qChain_, qAnd, qOr, qNot, qAndV_, qOrV_, qNotV_, qIf, qNil, qCons, qTup, qLst, qCB, qNext, qSeq, qRet, qRetN, qRetO_, qIfS, qAsg, qAsgO_, qPar, qParO_, qPar3, qPar3O_, qFrz_, qApN_, qStN_, qIxO_, qLend, qLendT, qNoPart, qPart_, qSl, qRevL_, qIsi_, qSplit_, qJoin_, qBits_, qIL_, qIT, qR1_, qR2_, qIS_, qIE_, qgN, qgNil, qgCons_, qgT_, qFor, qLc, qYes, qCall, qCallO_, kAdd, kI0_, kI_, kMul, kB0_, kEq, kNe, kIsN, kNotN, kIn, kNin, kLen_l, kLen_t, kLen_s, kAbs_, kMax2_, kInt_i, kInt_s, kStr_, kSum, kAll_, kAny_, kNeg_, dat_dt, dat_ow, dat_pw, toDt_dt, toDt_ow, toDt_pw, toDt_un, okSlot_dt, okSlot_ow, okSlot_un, okP_dt, okP_un, ownOf_ow, ownOf_pw, isN_n, isN_b, isN_i, isN_s, isN_l, isN_t, flatD_n, flatD_b, flatD_i, flatD_s, setOwn, ixq_l_, ixq_t_, ixq_s_, slq_l, slq_s, eqq_ii, eqq_ss, eqq_ll, eqq_tt, inn_l, inn_s, wipeR, freeV, mTup_t, mBool_b, mBoolS_b, mInt_i, mStr_s, mLst_l, mOpt_s, mOw_o, mOwn_o, mI1_i, mI2_i, mL1_l]
      refine ⟨r, x, rfl, by omega, by omega, fun f hf => (hr f hf).1, fun f hf => (q2 f hf).1, fun ys => ?_⟩
      simp only [dat_dt, mBool_b]
      cases hq : sameR x r
      · rw [hq] at hN
        simp
        exact hN rfl
      · rw [hq] at hY
        simp
        exact hY rfl
    · simp [qVar_, qC, q2, q1, qTest_, qChain_, qAnd, qOr, qNot, qAndV_, qOrV_, qNotV_, qIf, qNil, qCons, qTup, qLst, qCB, qNext, qSeq, qRet, qRetN, qRetO_, qIfS, qAsg, qAsgO_, qPar, qParO_, qPar3, qPar3O_, qFrz_, qApN_, qStN_, qIxO_, qLend, qLendT, qNoPart, qPart_, qSl, qRevL_, qIsi_, qSplit_, qJoin_, qBits_, qIL_, qIT, qR1_, qR2_, qIS_, qIE_, qgN, qgNil, qgCons_, qgT_, qFor, qLc, qYes, qCall, qCallO_, kAdd, kI0_, kI_, kMul, kB0_, kEq, kNe, kIsN, kNotN, kIn, kNin, kLen_l, kLen_t, kLen_s, kAbs_, kMax2_, kInt_i, kInt_s, kStr_, kSum, kAll_, kAny_, kNeg_, dat_dt, dat_ow, dat_pw, toDt_dt, toDt_ow, toDt_pw, toDt_un, okSlot_dt, okSlot_ow, okSlot_un, okP_dt, okP_un, ownOf_ow, ownOf_pw, isN_n, isN_b, isN_i, isN_s, isN_l, isN_t, flatD_n, flatD_b, flatD_i, flatD_s, setOwn, ixq_l_, ixq_t_, ixq_s_, slq_l, slq_s, eqq_ii, eqq_ss, eqq_ll, eqq_tt, inn_l, inn_s, wipeR, freeV, mTup_t, mBool_b, mBoolS_b, mInt_i, mStr_s, mLst_l, mOpt_s, mOw_o, mOwn_o, mI1_i, mI2_i, mL1_l, shaped_nil]
      refine ⟨(shq_list (n := 2) fun x hx => shq_rows x (List.mem_filter.mp hx).1).ok, ?_⟩
      rw [eqv_nil, alike_none]
      refine h.at ?_
      show PyData.bool _ = PyData.bool (canF m rows r)
      unfold canF
      rw [hb]
      rfl
end K90
set_option Elab.async false
set_option linter.all false
set_option maxRecDepth 100000
set_option autoImplicit false
namespace K90
open PySem PySem.Spec PyProof.Rows L2 DL
def pTold (l : Str) : PyData → Bool | .int k => decide (l = ("dimensions " : Str) ++ Str.ofString k.repr) | _ => false
theorem told_eq (l : Str) : (rngD 1 3).filter (pTold l) = match dimT l with | none => [] | some k => [.int k] := by
  have e : rngD 1 3 = [.int 1, .int 2, .int 3] := by rfl
  have d1 : ("dimensions " : Str) ++ Str.ofString (1 : Int).repr = "dimensions 1" := by decide +kernel
  have d2 : ("dimensions " : Str) ++ Str.ofString (2 : Int).repr = "dimensions 2" := by decide +kernel
  have d3 : ("dimensions " : Str) ++ Str.ofString (3 : Int).repr = "dimensions 3" := by decide +kernel
  have n12 : ("dimensions 1" : Str) ≠ "dimensions 2" := by decide +kernel
  have n13 : ("dimensions 1" : Str) ≠ "dimensions 3" := by decide +kernel
  have n23 : ("dimensions 2" : Str) ≠ "dimensions 3" := by decide +kernel
  rw [e]
  simp only [List.filter_cons, List.filter_nil, pTold, d1, d2, d3]
  unfold dimT
  by_cases h1 : l = "dimensions 1"
  · subst h1
    rw [decide_eq_true rfl, decide_eq_false n12, decide_eq_false n13]
    rfl
  · by_cases h2 : l = "dimensions 2"
    · subst h2
      rw [decide_eq_false h1, decide_eq_true rfl, decide_eq_false n23, if_neg h1]
      rfl
    · by_cases h3 : l = "dimensions 3"
      · subst h3
        rw [decide_eq_false h1, decide_eq_false h2, decide_eq_true rfl, if_neg h1, if_neg h2]
        rfl
      · rw [decide_eq_false h1, decide_eq_false h2, decide_eq_false h3, if_neg h1, if_neg h2, if_neg h3]
        rfl
def IwL (t : Str) (ls : List Str) (i : Nat) (ρ : List SD) : Prop := ∃ (mo : Option Nat) (rs : List (List Fr)) (s4 s5 s6 s7 : SD), okP (some s4) = true ∧ okP (some s5) = true ∧ okP (some s6) = true ∧ okP (some s7) = true ∧
  ρ = [.dt (.str t), .dt (.list (ls.map .str)), .dt (optM mo), .ow (rs.map rowD), s4, s5, s6, s7, .un, .un] ∧
  wr none [] 0 ls.dropLast = wr mo rs i (ls.dropLast.drop i) ∧ (mo = none ↔ i = 0) ∧ (mo = none → rs = []) ∧ (i = 0 ∨ rs.length + 1 = i) ∧ rs.length ≤ 8 ∧ ∀ m, mo = some m → m ≤ 3 ∧ ∀ r ∈ rs, RowOk m r
theorem shq_ints {n : Nat} {lo : Int} {k : Nat} : ∀ d ∈ rngD lo k, shq n d := fun d hd => by
  obtain ⟨i, _, rfl⟩ := List.mem_map.mp hd
  exact shq_int
theorem p__law_wrong (as R) (h : d__law_wrong as R) : as.length = 1 ∧ q__law_wrong { nx := fun ρ => R (.dt .none) (pwOf ρ), rt := fun r ρ => R r (pwOf ρ) } (as ++ List.replicate (N__law_wrong.length - 1) .un) := by
  obtain ⟨t, rfl, ht, h⟩ := h
  refine ⟨rfl, ?_⟩
  unfold q__law_wrong
  obtain ⟨l0, l1, l2⟩ := lines_facts ht
  have hw := wrongBy_eq t
  have hsz : t.length + 2 ≤ sizeLine := lsz (by have := ht.1; omega)
  refine seq_i (fun ρ' => ρ' = [.dt (.str t), .dt (.list ((linesOf t).map .str)), .dt .none, .ow [], .un, .un, .un, .un, .un, .un]) (fun K hK => ?_) ?_
  · simp [qVar_, qC, q2, q1, qTest_, qChain_, qAnd, qOr, qNot, qAndV_, qOrV_, qNotV_, qIf, qNil, qCons, qTup, qLst, qCB, qNext, qSeq, qRet, qRetN, qRetO_, qIfS, qAsg, qAsgO_, qPar, qParO_, qPar3, qPar3O_, qFrz_, qApN_, qStN_, qIxO_, qLend, qLendT, qNoPart, qPart_, qSl, qRevL_, qIsi_, qSplit_, qJoin_, qBits_, qIL_, qIT, qR1_, qR2_, qIS_, qIE_, qgN, qgNil, qgCons_, qgT_, qFor, qLc, qYes, qCall, qCallO_, kAdd, kI0_, kI_, kMul, kB0_, kEq, kNe, kIsN, kNotN, kIn, kNin, kLen_l, kLen_t, kLen_s, kAbs_, kMax2_, kInt_i, kInt_s, kStr_, kSum, kAll_, kAny_, kNeg_, dat_dt, dat_ow, dat_pw, toDt_dt, toDt_ow, toDt_pw, toDt_un, okSlot_dt, okSlot_ow, okSlot_un, okP_dt, okP_un, ownOf_ow, ownOf_pw, isN_n, isN_b, isN_i, isN_s, isN_l, isN_t, flatD_n, flatD_b, flatD_i, flatD_s, setOwn, ixq_l_, ixq_t_, ixq_s_, slq_l, slq_s, eqq_ii, eqq_ss, eqq_ll, eqq_tt, inn_l, inn_s, wipeR, freeV, mTup_t, mBool_b, mBoolS_b, mInt_i, mStr_s, mLst_l, mOpt_s, mOw_o, mOwn_o, mI1_i, mI2_i, mL1_l]
    exact ⟨by decide, hsz, hK _ rfl⟩
  rintro _ rfl
  revert l0 l1 l2 hw
  generalize linesOf t = ls
  intro l0 l1 l2 hw
  have hne : ls.map PyData.str ≠ [] := by simpa using l0
  refine seq_i (fun ρ' => wr none [] 0 ls.dropLast = none ∧ IwL t ls ls.dropLast.length ρ') (fun K hK => ?_) ?_
  · simp [qVar_, qC, q2, q1, qTest_, qChain_, qAnd, qOr, qNot, qAndV_, qOrV_, qNotV_, qIf, qNil, qCons, qTup, qLst, qCB, qNext, qSeq, qRet, qRetN, qRetO_, qIfS, qAsg, qAsgO_, qPar, qParO_, qPar3, qPar3O_, qFrz_, qApN_, qStN_, qIxO_, qLend, qLendT, qNoPart, qPart_, qSl, qRevL_, qIsi_, qSplit_, qJoin_, qBits_, qIL_, qIT, qR1_, qR2_, qIS_, qIE_, qgN, qgNil, qgCons_, qgT_, qFor, qLc, qYes, qCall, qCallO_, kAdd, kI0_, kI_, kMul, kB0_, kEq, kNe, kIsN, kNotN, kIn, kNin, kLen_l, kLen_t, kLen_s, kAbs_, kMax2_, kInt_i, kInt_s, kStr_, kSum, kAll_, kAny_, kNeg_, dat_dt, dat_ow, dat_pw, toDt_dt, toDt_ow, toDt_pw, toDt_un, okSlot_dt, okSlot_ow, okSlot_un, okP_dt, okP_un, ownOf_ow, ownOf_pw, isN_n, isN_b, isN_i, isN_s, isN_l, isN_t, flatD_n, flatD_b, flatD_i, flatD_s, setOwn, ixq_l_, ixq_t_, ixq_s_, slq_l, slq_s, eqq_ii, eqq_ss, eqq_ll, eqq_tt, inn_l, inn_s, wipeR, freeV, mTup_t, mBool_b, mBoolS_b, mInt_i, mStr_s, mLst_l, mOpt_s, mOw_o, mOwn_o, mI1_i, mI2_i, mL1_l]
    rw [cutD_last hne, ← List.map_dropLast]
    refine ⟨IwL t ls, ⟨none, [], .un, .un, .un, .un, rfl, rfl, rfl, rfl, rfl, by simp, by simp, fun _ => rfl, .inl rfl, by simp, fun m hm => by cases hm⟩, ?_, ?_⟩
    · rintro i d _ hd ⟨mo, rs, s4, s5, s6, s7, o4, o5, o6, o7, rfl, hv, hm0, hrn, hri, h8, hrs⟩
      obtain ⟨l, hli, rfl, hilt⟩ := enum_item hd
      have hdrop : ls.dropLast.drop i = l :: ls.dropLast.drop (i + 1) := by
        rw [List.drop_eq_getElem_cons hilt]
        congr 1
        exact (List.getElem?_eq_some_iff.mp hli).2
      rw [hdrop] at hv
      obtain ⟨lz, la⟩ := l2.2 l (List.mem_of_getElem? hli)
      simp [qVar_, qC, q2, q1, qTest_, qChain_, qAnd, qOr, qNot, qAndV_, qOrV_, qNotV_, qIf, qNil, qCons, qTup, qLst, qCB, qNext, qSeq, qRet, qRetN, qRetO_, qIfS, qAsg, qAsgO_, qPar, qParO_, qPar3, qPar3O_, qFrz_, qApN_, qStN_, qIxO_, qLend, qLendT, qNoPart, qPart_, qSl, qRevL_, qIsi_, qSplit_, qJoin_, qBits_, qIL_, qIT, qR1_, qR2_, qIS_, qIE_, qgN, qgNil, qgCons_, qgT_, qFor, qLc, qYes, qCall, qCallO_, kAdd, kI0_, kI_, kMul, kB0_, kEq, kNe, kIsN, kNotN, kIn, kNin, kLen_l, kLen_t, kLen_s, kAbs_, kMax2_, kInt_i, kInt_s, kStr_, kSum, kAll_, kAny_, kNeg_, dat_dt, dat_ow, dat_pw, toDt_dt, toDt_ow, toDt_pw, toDt_un, okSlot_dt, okSlot_ow, okSlot_un, okP_dt, okP_un, ownOf_ow, ownOf_pw, isN_n, isN_b, isN_i, isN_s, isN_l, isN_t, flatD_n, flatD_b, flatD_i, flatD_s, setOwn, ixq_l_, ixq_t_, ixq_s_, slq_l, slq_s, eqq_ii, eqq_ss, eqq_ll, eqq_tt, inn_l, inn_s, wipeR, freeV, mTup_t, mBool_b, mBoolS_b, mInt_i, mStr_s, mLst_l, mOpt_s, mOw_o, mOwn_o, mI1_i, mI2_i, mL1_l]
      refine ⟨o4, o5, ?_⟩
      by_cases hi : i = 0
      · have hmo := hm0.mpr hi
        subst hmo hi
        have e0 := hrn rfl
        subst e0
        rw [if_pos rfl]
        rw [wr_none] at hv
        refine lc_filter rfl (by rw [rngD_len]; decide) rfl (pTold l) id ?_ ?_
        · intro d hd Y N hY hN
          obtain ⟨k, hk, rfl⟩ := List.mem_map.mp hd
          have hk3 : k < 3 := List.mem_range.mp hk
          simp [qVar_, qC, q2, q1, qTest_, qChain_, qAnd, qOr, qNot, qAndV_, qOrV_, qNotV_, qIf, qNil, qCons, qTup, qLst, qCB, qNext, qSeq, qRet, qRetN, qRetO_, qIfS, qAsg, qAsgO_, qPar, qParO_, qPar3, qPar3O_, qFrz_, qApN_, qStN_, qIxO_, qLend, qLendT, qNoPart, qPart_, qSl, qRevL_, qIsi_, qSplit_, qJoin_, qBits_, qIL_, qIT, qR1_, qR2_, qIS_, qIE_, qgN, qgNil, qgCons_, qgT_, qFor, qLc, qYes, qCall, qCallO_, kAdd, kI0_, kI_, kMul, kB0_, kEq, kNe, kIsN, kNotN, kIn, kNin, kLen_l, kLen_t, kLen_s, kAbs_, kMax2_, kInt_i, kInt_s, kStr_, kSum, kAll_, kAny_, kNeg_, dat_dt, dat_ow, dat_pw, toDt_dt, toDt_ow, toDt_pw, toDt_un, okSlot_dt, okSlot_ow, okSlot_un, okP_dt, okP_un, ownOf_ow, ownOf_pw, isN_n, isN_b, isN_i, isN_s, isN_l, isN_t, flatD_n, flatD_b, flatD_i, flatD_s, setOwn, ixq_l_, ixq_t_, ixq_s_, slq_l, slq_s, eqq_ii, eqq_ss, eqq_ll, eqq_tt, inn_l, inn_s, wipeR, freeV, mTup_t, mBool_b, mBoolS_b, mInt_i, mStr_s, mLst_l, mOpt_s, mOw_o, mOwn_o, mI1_i, mI2_i, mL1_l]
          have hlog : (1 + (k : Int)).natAbs.log2 < 1920 := num_log (by omega)
          refine ⟨hlog, dim_len hk3, ?_⟩
          by_cases he : l = ("dimensions " : Str) ++ Str.ofString (1 + (k : Int)).repr
          · rw [if_pos he]
            exact hY (decide_eq_true he)
          · rw [if_neg he]
            exact hN (decide_eq_false he)
        · simp [qVar_, qC, q2, q1, qTest_, qChain_, qAnd, qOr, qNot, qAndV_, qOrV_, qNotV_, qIf, qNil, qCons, qTup, qLst, qCB, qNext, qSeq, qRet, qRetN, qRetO_, qIfS, qAsg, qAsgO_, qPar, qParO_, qPar3, qPar3O_, qFrz_, qApN_, qStN_, qIxO_, qLend, qLendT, qNoPart, qPart_, qSl, qRevL_, qIsi_, qSplit_, qJoin_, qBits_, qIL_, qIT, qR1_, qR2_, qIS_, qIE_, qgN, qgNil, qgCons_, qgT_, qFor, qLc, qYes, qCall, qCallO_, kAdd, kI0_, kI_, kMul, kB0_, kEq, kNe, kIsN, kNotN, kIn, kNin, kLen_l, kLen_t, kLen_s, kAbs_, kMax2_, kInt_i, kInt_s, kStr_, kSum, kAll_, kAny_, kNeg_, dat_dt, dat_ow, dat_pw, toDt_dt, toDt_ow, toDt_pw, toDt_un, okSlot_dt, okSlot_ow, okSlot_un, okP_dt, okP_un, ownOf_ow, ownOf_pw, isN_n, isN_b, isN_i, isN_s, isN_l, isN_t, flatD_n, flatD_b, flatD_i, flatD_s, setOwn, ixq_l_, ixq_t_, ixq_s_, slq_l, slq_s, eqq_ii, eqq_ss, eqq_ll, eqq_tt, inn_l, inn_s, wipeR, freeV, mTup_t, mBool_b, mBoolS_b, mInt_i, mStr_s, mLst_l, mOpt_s, mOw_o, mOwn_o, mI1_i, mI2_i, mL1_l, shaped_nil]
          have o6' : okSlot (some s6) = true := okSlot_of o6
          refine ⟨o6', (shq_list (n := 0) fun x hx => shq_ints x (List.mem_filter.mp hx).1).ok, ?_⟩
          rw [eqv_nil, told_eq]
          rcases dimT_cases l with hdn | ⟨m, hm3, hd1, hd2⟩
          · rw [hdn] at hv ⊢
            exact h.at (by rw [hw, hv]; rfl)
          · rw [hd1] at hv ⊢
            have a0 : atI [PyData.int (m : Int)] 0 = some (.int m) := rfl
            simp [qVar_, qC, q2, q1, qTest_, qChain_, qAnd, qOr, qNot, qAndV_, qOrV_, qNotV_, qIf, qNil, qCons, qTup, qLst, qCB, qNext, qSeq, qRet, qRetN, qRetO_, qIfS, qAsg, qAsgO_, qPar, qParO_, qPar3, qPar3O_, qFrz_, qApN_, qStN_, qIxO_, qLend, qLendT, qNoPart, qPart_, qSl, qRevL_, qIsi_, qSplit_, qJoin_, qBits_, qIL_, qIT, qR1_, qR2_, qIS_, qIE_, qgN, qgNil, qgCons_, qgT_, qFor, qLc, qYes, qCall, qCallO_, kAdd, kI0_, kI_, kMul, kB0_, kEq, kNe, kIsN, kNotN, kIn, kNin, kLen_l, kLen_t, kLen_s, kAbs_, kMax2_, kInt_i, kInt_s, kStr_, kSum, kAll_, kAny_, kNeg_, dat_dt, dat_ow, dat_pw, toDt_dt, toDt_ow, toDt_pw, toDt_un, okSlot_dt, okSlot_ow, okSlot_un, okP_dt, okP_un, ownOf_ow, ownOf_pw, isN_n, isN_b, isN_i, isN_s, isN_l, isN_t, flatD_n, flatD_b, flatD_i, flatD_s, setOwn, ixq_l_, ixq_t_, ixq_s_, slq_l, slq_s, eqq_ii, eqq_ss, eqq_ll, eqq_tt, inn_l, inn_s, wipeR, freeV, mTup_t, mBool_b, mBoolS_b, mInt_i, mStr_s, mLst_l, mOpt_s, mOw_o, mOwn_o, mI1_i, mI2_i, mL1_l, a0]
            exact ⟨some m, [], .dt (.int 0), .dt (.str l), .dt (.list [.int m]), s7, rfl, rfl, rfl, o7, rfl, by simpa using hv, by simp, by simp, by simp, by simp, fun m' hm' => by cases hm'; exact ⟨hm3, fun r hr => by cases hr⟩⟩
      · rw [if_neg hi]
        cases mo with
        | none => exact absurd (hm0.mp rfl) hi
        | some m =>
          obtain ⟨hm3, hrows⟩ := hrs m rfl
          rw [wr_some] at hv
          obtain ⟨f1, f2, f3⟩ := split_facts (x := l) sp_ne sp_k
          have hrt : rt l = if ((Txt.split l " ").map ft).all (·.isSome) = true then some (((Txt.split l " ").map ft).filterMap id) else none := rfl
          have hl2 : l.length + 2 ≤ sizeLine := lsz lz
          have hpl : (Txt.split l (" " : Str)).length ≤ sizeLine := by omega
          have o7' : okSlot (some s7) = true := okSlot_of o7
          refine ⟨by decide, hl2, ?_⟩
          refine lc_map rfl (by simpa using hpl) rfl dFt ?_ ?_
          · intro d hd Y hY
            obtain ⟨p, hp, rfl⟩ := List.mem_map.mp hd
            simp [qVar_, qC, q2, q1, qTest_, qChain_, qAnd, qOr, qNot, qAndV_, qOrV_, qNotV_, qIf, qNil, qCons, qTup, qLst, qCB, qNext, qSeq, qRet, qRetN, qRetO_, qIfS, qAsg, qAsgO_, qPar, qParO_, qPar3, qPar3O_, qFrz_, qApN_, qStN_, qIxO_, qLend, qLendT, qNoPart, qPart_, qSl, qRevL_, qIsi_, qSplit_, qJoin_, qBits_, qIL_, qIT, qR1_, qR2_, qIS_, qIE_, qgN, qgNil, qgCons_, qgT_, qFor, qLc, qYes, qCall, qCallO_, kAdd, kI0_, kI_, kMul, kB0_, kEq, kNe, kIsN, kNotN, kIn, kNin, kLen_l, kLen_t, kLen_s, kAbs_, kMax2_, kInt_i, kInt_s, kStr_, kSum, kAll_, kAny_, kNeg_, dat_dt, dat_ow, dat_pw, toDt_dt, toDt_ow, toDt_pw, toDt_un, okSlot_dt, okSlot_ow, okSlot_un, okP_dt, okP_un, ownOf_ow, ownOf_pw, isN_n, isN_b, isN_i, isN_s, isN_l, isN_t, flatD_n, flatD_b, flatD_i, flatD_s, setOwn, ixq_l_, ixq_t_, ixq_s_, slq_l, slq_s, eqq_ii, eqq_ss, eqq_ll, eqq_tt, inn_l, inn_s, wipeR, freeV, mTup_t, mBool_b, mBoolS_b, mInt_i, mStr_s, mLst_l, mOpt_s, mOw_o, mOwn_o, mI1_i, mI2_i, mL1_l]
            exact ⟨p, rfl, Nat.le_trans (f1 p hp).2 lz, fun c hc => la c ((f1 p hp).1 c hc), fun ys => hY⟩
          · simp [qVar_, qC, q2, q1, qTest_, qChain_, qAnd, qOr, qNot, qAndV_, qOrV_, qNotV_, qIf, qNil, qCons, qTup, qLst, qCB, qNext, qSeq, qRet, qRetN, qRetO_, qIfS, qAsg, qAsgO_, qPar, qParO_, qPar3, qPar3O_, qFrz_, qApN_, qStN_, qIxO_, qLend, qLendT, qNoPart, qPart_, qSl, qRevL_, qIsi_, qSplit_, qJoin_, qBits_, qIL_, qIT, qR1_, qR2_, qIS_, qIE_, qgN, qgNil, qgCons_, qgT_, qFor, qLc, qYes, qCall, qCallO_, kAdd, kI0_, kI_, kMul, kB0_, kEq, kNe, kIsN, kNotN, kIn, kNin, kLen_l, kLen_t, kLen_s, kAbs_, kMax2_, kInt_i, kInt_s, kStr_, kSum, kAll_, kAny_, kNeg_, dat_dt, dat_ow, dat_pw, toDt_dt, toDt_ow, toDt_pw, toDt_un, okSlot_dt, okSlot_ow, okSlot_un, okP_dt, okP_un, ownOf_ow, ownOf_pw, isN_n, isN_b, isN_i, isN_s, isN_l, isN_t, flatD_n, flatD_b, flatD_i, flatD_s, setOwn, ixq_l_, ixq_t_, ixq_s_, slq_l, slq_s, eqq_ii, eqq_ss, eqq_ll, eqq_tt, inn_l, inn_s, wipeR, freeV, mTup_t, mBool_b, mBoolS_b, mInt_i, mStr_s, mLst_l, mOpt_s, mOw_o, mOwn_o, mI1_i, mI2_i, mL1_l]
            refine ⟨o7', ?_⟩
            have hrl := fun (r : List Fr) (hr : rt l = some r) => rt_ok hr
            revert hrt hpl hrl
            generalize Txt.split l (" " : Str) = ps
            intro hrt hpl hrl
            have ed : (List.map (dFt ∘ PyData.str) ps) = ps.map fun p => optF (ft p) := rfl
            rw [ed]
            refine ⟨by decide, (shq_list (n := 1) fun x hx => ?_).ok, ?_⟩
            · obtain ⟨p, _, rfl⟩ := List.mem_map.mp hx
              exact shq_optF
            rw [none_any]
            cases ha : (ps.map ft).all (·.isSome) with
            | false =>
              rw [ha] at hrt
              rw [hrt] at hv
              exact h.at (by rw [hw, hv]; rfl)
            | true =>
              rw [ha, if_pos rfl] at hrt
              have e3 : (ps.map fun p => optF (ft p)) = ((ps.map ft).filterMap id).map frD := by
                rw [← all_some ha, List.map_map]
                rfl
              rw [e3]
              rw [hrt] at hv
              simp only [] at hv
              obtain ⟨q1, q2⟩ := hrl _ hrt
              generalize (ps.map ft).filterMap id = r at *
              simp
              have hrz : r.length ≤ sizeLine := by omega
              refine ⟨by decide, .str "planes", m, rs, r, rfl, hm3, h8, hrows, hrz, q2, fun ys => ?_⟩
              by_cases hc : canF m rs r = true
              · rw [if_pos hc] at hv
                simp [qVar_, qC, q2, q1, qTest_, qChain_, qAnd, qOr, qNot, qAndV_, qOrV_, qNotV_, qIf, qNil, qCons, qTup, qLst, qCB, qNext, qSeq, qRet, qRetN, qRetO_, qIfS, qAsg, qAsgO_, qPar, qParO_, qPar3, qPar3O_, qFrz_, qApN_, qStN_, qIxO_, qLend, qLendT, qNoPart, qPart_, qSl, qRevL_, qIsi_, qSplit_, qJoin_, qBits_, qIL_, qIT, qR1_, qR2_, qIS_, qIE_, qgN, qgNil, qgCons_, qgT_, qFor, qLc, qYes, qCall, qCallO_, kAdd, kI0_, kI_, kMul, kB0_, kEq, kNe, kIsN, kNotN, kIn, kNin, kLen_l, kLen_t, kLen_s, kAbs_, kMax2_, kInt_i, kInt_s, kStr_, kSum, kAll_, kAny_, kNeg_, dat_dt, dat_ow, dat_pw, toDt_dt, toDt_ow, toDt_pw, toDt_un, okSlot_dt, okSlot_ow, okSlot_un, okP_dt, okP_un, ownOf_ow, ownOf_pw, isN_n, isN_b, isN_i, isN_s, isN_l, isN_t, flatD_n, flatD_b, flatD_i, flatD_s, setOwn, ixq_l_, ixq_t_, ixq_s_, slq_l, slq_s, eqq_ii, eqq_ss, eqq_ll, eqq_tt, inn_l, inn_s, wipeR, freeV, mTup_t, mBool_b, mBoolS_b, mInt_i, mStr_s, mLst_l, mOpt_s, mOw_o, mOwn_o, mI1_i, mI2_i, mL1_l, hc]
                have hsz : rs.length < sizeLine := by
                  have : 8 < sizeLine := by decide
                  omega
                refine ⟨hsz, ?_⟩
                obtain ⟨c1, c2⟩ := canF_ok hc
                have hri' : rs.length + 1 = i := hri.resolve_left hi
                refine ⟨some m, rs ++ [r], .dt (.int i), .dt (.str l), s6, .dt (rowD r), rfl, rfl, o6, rfl, by simp [rowD], hv, by simp, by simp, .inr (by simp; omega), by simp; omega, fun m' hm' => ?_⟩
                cases hm'
                refine ⟨hm3, fun r' hr' => ?_⟩
                rcases List.mem_append.mp hr' with z | z
                · exact hrows _ z
                · rw [List.mem_singleton.mp z]
                  exact ⟨c1, q2⟩
              · rw [if_neg hc] at hv
                have hc' : canF m rs r = false := by simpa using hc
                simp [qVar_, qC, q2, q1, qTest_, qChain_, qAnd, qOr, qNot, qAndV_, qOrV_, qNotV_, qIf, qNil, qCons, qTup, qLst, qCB, qNext, qSeq, qRet, qRetN, qRetO_, qIfS, qAsg, qAsgO_, qPar, qParO_, qPar3, qPar3O_, qFrz_, qApN_, qStN_, qIxO_, qLend, qLendT, qNoPart, qPart_, qSl, qRevL_, qIsi_, qSplit_, qJoin_, qBits_, qIL_, qIT, qR1_, qR2_, qIS_, qIE_, qgN, qgNil, qgCons_, qgT_, qFor, qLc, qYes, qCall, qCallO_, kAdd, kI0_, kI_, kMul, kB0_, kEq, kNe, kIsN, kNotN, kIn, kNin, kLen_l, kLen_t, kLen_s, kAbs_, kMax2_, kInt_i, kInt_s, kStr_, kSum, kAll_, kAny_, kNeg_, dat_dt, dat_ow, dat_pw, toDt_dt, toDt_ow, toDt_pw, toDt_un, okSlot_dt, okSlot_ow, okSlot_un, okP_dt, okP_un, ownOf_ow, ownOf_pw, isN_n, isN_b, isN_i, isN_s, isN_l, isN_t, flatD_n, flatD_b, flatD_i, flatD_s, setOwn, ixq_l_, ixq_t_, ixq_s_, slq_l, slq_s, eqq_ii, eqq_ss, eqq_ll, eqq_tt, inn_l, inn_s, wipeR, freeV, mTup_t, mBool_b, mBoolS_b, mInt_i, mStr_s, mLst_l, mOpt_s, mOw_o, mOwn_o, mI1_i, mI2_i, mL1_l, hc']
                exact h.at (by rw [hw, hv]; rfl)
    · intro ρ hI
      rw [enum_len] at hI
      refine hK _ ⟨?_, hI⟩
      obtain ⟨mo, rs, s4, s5, s6, s7, o4, o5, o6, o7, rfl, hv, _⟩ := hI
      rw [hv, List.drop_length]
      cases mo <;> rfl
  · rintro _ ⟨hn, ⟨mo, rs, s4, s5, s6, s7, o4, o5, o6, o7, rfl, hv, hm0, hrn, hri, h8, hrs⟩⟩
    rw [hn] at hw
    obtain ⟨z, hz1, hz2⟩ := atS_last' l0
    simp only [hz1] at hw
    have hll : ls.dropLast.length = ls.length - 1 := List.length_dropLast
    have hlp : 0 < ls.length := List.length_pos_iff.mpr l0
    simp [qVar_, qC, q2, q1, qTest_, qChain_, qAnd, qOr, qNot, qAndV_, qOrV_, qNotV_, qIf, qNil, qCons, qTup, qLst, qCB, qNext, qSeq, qRet, qRetN, qRetO_, qIfS, qAsg, qAsgO_, qPar, qParO_, qPar3, qPar3O_, qFrz_, qApN_, qStN_, qIxO_, qLend, qLendT, qNoPart, qPart_, qSl, qRevL_, qIsi_, qSplit_, qJoin_, qBits_, qIL_, qIT, qR1_, qR2_, qIS_, qIE_, qgN, qgNil, qgCons_, qgT_, qFor, qLc, qYes, qCall, qCallO_, kAdd, kI0_, kI_, kMul, kB0_, kEq, kNe, kIsN, kNotN, kIn, kNin, kLen_l, kLen_t, kLen_s, kAbs_, kMax2_, kInt_i, kInt_s, kStr_, kSum, kAll_, kAny_, kNeg_, dat_dt, dat_ow, dat_pw, toDt_dt, toDt_ow, toDt_pw, toDt_un, okSlot_dt, okSlot_ow, okSlot_un, okP_dt, okP_un, ownOf_ow, ownOf_pw, isN_n, isN_b, isN_i, isN_s, isN_l, isN_t, flatD_n, flatD_b, flatD_i, flatD_s, setOwn, ixq_l_, ixq_t_, ixq_s_, slq_l, slq_s, eqq_ii, eqq_ss, eqq_ll, eqq_tt, inn_l, inn_s, wipeR, freeV, mTup_t, mBool_b, mBoolS_b, mInt_i, mStr_s, mLst_l, mOpt_s, mOw_o, mOwn_o, mI1_i, mI2_i, mL1_l, hz2]
    have eint : optN (some (ls.length - 1)) = .int ((ls.length : Int) - 1) := by
      show PyData.int _ = PyData.int _
      congr 1
      omega
    by_cases he : z = ("" : Str)
    · simp [he] at hw ⊢
      refine ⟨(shq_list (n := 2) shq_rows).ok, shaped_nil, ?_⟩
      rw [eqv_nil, List.isEmpty_map]
      cases rs with
      | nil =>
        have h3 : ls.length < 3 := by
          rcases hri with e | e
          · omega
          · simp at e
            omega
        rw [if_pos h3] at hw
        exact h.at (by rw [hw, eint])
      | cons r rs =>
        have h3 : ¬ ls.length < 3 := by
          rcases hri with e | e
          · have := hrn (hm0.mpr e)
            cases this
          · simp at e
            omega
        rw [if_neg h3] at hw
        exact h.at (by rw [hw]; rfl)
    · simp [he] at hw ⊢
      exact h.at (by rw [hw, eint])
end K90
set_option Elab.async false
set_option linter.all false
set_option maxRecDepth 100000
set_option autoImplicit false
namespace K90
open PySem PySem.Spec PyProof.Rows L2 DL
theorem cm {i j : Int} (h1 : i.natAbs < 2 ^ 200) (h2 : j.natAbs < 2 ^ 200) : CMulW i j := wide_mul h1 h2 (by decide) (by decide) (by decide)
theorem cd {i j : Int} (h : 0 < j) (h1 : j.natAbs < 2 ^ 200) : CDivW i j := wide_div h h1 (by decide) (by decide)
theorem p__law_hash (as R) (h : d__law_hash as R) : as.length = 2 ∧ q__law_hash { nx := fun ρ => R (.dt .none) (pwOf ρ), rt := fun r ρ => R r (pwOf ρ) } (as ++ List.replicate (N__law_hash.length - 2) .un) := by
  obtain ⟨a, b, rfl, ha, hb, h⟩ := h
  refine ⟨rfl, ?_⟩
  unfold q__law_hash
  refine seq_i (fun ρ' => ∃ m : Int, 0 ≤ m ∧ m < 2147483629 ∧ ρ' = [.dt (.int a), .dt (.int b), .dt (.int m)]) (fun K hK => ?_) ?_
  · simp [qVar_, qC, q2, q1, qTest_, qChain_, qAnd, qOr, qNot, qAndV_, qOrV_, qNotV_, qIf, qNil, qCons, qTup, qLst, qCB, qNext, qSeq, qRet, qRetN, qRetO_, qIfS, qAsg, qAsgO_, qPar, qParO_, qPar3, qPar3O_, qFrz_, qApN_, qStN_, qIxO_, qLend, qLendT, qNoPart, qPart_, qSl, qRevL_, qIsi_, qSplit_, qJoin_, qBits_, qIL_, qIT, qR1_, qR2_, qIS_, qIE_, qgN, qgNil, qgCons_, qgT_, qFor, qLc, qYes, qCall, qCallO_, kAdd, kI0_, kI_, kMul, kB0_, kEq, kNe, kIsN, kNotN, kIn, kNin, kLen_l, kLen_t, kLen_s, kAbs_, kMax2_, kInt_i, kInt_s, kStr_, kSum, kAll_, kAny_, kNeg_, dat_dt, dat_ow, dat_pw, toDt_dt, toDt_ow, toDt_pw, toDt_un, okSlot_dt, okSlot_ow, okSlot_un, okP_dt, okP_un, ownOf_ow, ownOf_pw, isN_n, isN_b, isN_i, isN_s, isN_l, isN_t, flatD_n, flatD_b, flatD_i, flatD_s, setOwn, ixq_l_, ixq_t_, ixq_s_, slq_l, slq_s, eqq_ii, eqq_ss, eqq_ll, eqq_tt, inn_l, inn_s, wipeR, freeV, mTup_t, mBool_b, mBoolS_b, mInt_i, mStr_s, mLst_l, mOpt_s, mOw_o, mOwn_o, mI1_i, mI2_i, mL1_l]
    refine ⟨cm (by omega) (by decide), cm (by decide) (by omega), cm (by omega) (by omega), cm (by decide) (by omega), hK _ ⟨_, Int.emod_nonneg _ (by decide), Int.emod_lt_of_pos _ (by decide), rfl⟩⟩
  rintro _ ⟨m, m0, m1, rfl⟩
  refine seq_i (fun ρ' => ∃ m : Int, 0 ≤ m ∧ m < 2147483587 ∧ ρ' = [.dt (.int a), .dt (.int b), .dt (.int m)]) (fun K hK => ?_) ?_
  · simp [qVar_, qC, q2, q1, qTest_, qChain_, qAnd, qOr, qNot, qAndV_, qOrV_, qNotV_, qIf, qNil, qCons, qTup, qLst, qCB, qNext, qSeq, qRet, qRetN, qRetO_, qIfS, qAsg, qAsgO_, qPar, qParO_, qPar3, qPar3O_, qFrz_, qApN_, qStN_, qIxO_, qLend, qLendT, qNoPart, qPart_, qSl, qRevL_, qIsi_, qSplit_, qJoin_, qBits_, qIL_, qIT, qR1_, qR2_, qIS_, qIE_, qgN, qgNil, qgCons_, qgT_, qFor, qLc, qYes, qCall, qCallO_, kAdd, kI0_, kI_, kMul, kB0_, kEq, kNe, kIsN, kNotN, kIn, kNin, kLen_l, kLen_t, kLen_s, kAbs_, kMax2_, kInt_i, kInt_s, kStr_, kSum, kAll_, kAny_, kNeg_, dat_dt, dat_ow, dat_pw, toDt_dt, toDt_ow, toDt_pw, toDt_un, okSlot_dt, okSlot_ow, okSlot_un, okP_dt, okP_un, ownOf_ow, ownOf_pw, isN_n, isN_b, isN_i, isN_s, isN_l, isN_t, flatD_n, flatD_b, flatD_i, flatD_s, setOwn, ixq_l_, ixq_t_, ixq_s_, slq_l, slq_s, eqq_ii, eqq_ss, eqq_ll, eqq_tt, inn_l, inn_s, wipeR, freeV, mTup_t, mBool_b, mBoolS_b, mInt_i, mStr_s, mLst_l, mOpt_s, mOw_o, mOwn_o, mI1_i, mI2_i, mL1_l]
    refine ⟨cm (by omega) (by omega), cm (by decide) (by omega), hK _ ⟨_, Int.emod_nonneg _ (by decide), Int.emod_lt_of_pos _ (by decide), rfl⟩⟩
  rintro _ ⟨m, m0, m1, rfl⟩
  simp [qVar_, qC, q2, q1, qTest_, qChain_, qAnd, qOr, qNot, qAndV_, qOrV_, qNotV_, qIf, qNil, qCons, qTup, qLst, qCB, qNext, qSeq, qRet, qRetN, qRetO_, qIfS, qAsg, qAsgO_, qPar, qParO_, qPar3, qPar3O_, qFrz_, qApN_, qStN_, qIxO_, qLend, qLendT, qNoPart, qPart_, qSl, qRevL_, qIsi_, qSplit_, qJoin_, qBits_, qIL_, qIT, qR1_, qR2_, qIS_, qIE_, qgN, qgNil, qgCons_, qgT_, qFor, qLc, qYes, qCall, qCallO_, kAdd, kI0_, kI_, kMul, kB0_, kEq, kNe, kIsN, kNotN, kIn, kNin, kLen_l, kLen_t, kLen_s, kAbs_, kMax2_, kInt_i, kInt_s, kStr_, kSum, kAll_, kAny_, kNeg_, dat_dt, dat_ow, dat_pw, toDt_dt, toDt_ow, toDt_pw, toDt_un, okSlot_dt, okSlot_ow, okSlot_un, okP_dt, okP_un, ownOf_ow, ownOf_pw, isN_n, isN_b, isN_i, isN_s, isN_l, isN_t, flatD_n, flatD_b, flatD_i, flatD_s, setOwn, ixq_l_, ixq_t_, ixq_s_, slq_l, slq_s, eqq_ii, eqq_ss, eqq_ll, eqq_tt, inn_l, inn_s, wipeR, freeV, mTup_t, mBool_b, mBoolS_b, mInt_i, mStr_s, mLst_l, mOpt_s, mOw_o, mOwn_o, mI1_i, mI2_i, mL1_l]
  exact ⟨cm (by omega) (by decide), h _ (Int.emod_nonneg _ (by decide)) (Int.emod_lt_of_pos _ (by decide)) _⟩
theorem Gen.up {n m : Nat} {g : List PyData} (h : Gen n g) (k : n ≤ m) : Gen m g := by
  obtain ⟨a, b, c, e, h1, h2, h3, h4, h5, h6⟩ := h
  exact ⟨a, b, c, e, h1, h2, h3, h4, h5, by omega⟩
theorem bits30 {b : Int} (h0 : 0 < b) (h : b < 2 ^ 20) : ((Builtin.Int.intBits b : Nat) : Int) / 30 = 0 := by
  unfold PySem.Builtin.Int.intBits
  have : b.natAbs.log2 < 20 := PySem.Flt.log2_lt_of (by decide) (by omega)
  split
  · rfl
  · omega
theorem p__law_random (as R) (h : d__law_random as R) : as.length = 2 ∧ q__law_random { nx := fun ρ => R (.dt .none) (pwOf ρ), rt := fun r ρ => R r (pwOf ρ) } (as ++ List.replicate (N__law_random.length - 2) .un) := by
  obtain ⟨n, g, b, rfl, hn, ⟨x, y, z, rfl, g1, g2, g3, g4, g5, g6⟩, hb0, hb1, h⟩ := h
  refine ⟨rfl, ?_⟩
  unfold q__law_random
  refine seq_i (fun ρ' => ρ' = [.pw [.int x, .int y, .int z], .dt (.int b), .un, .un]) (fun K hK => ?_) ?_
  · simp [qVar_, qC, q2, q1, qTest_, qChain_, qAnd, qOr, qNot, qAndV_, qOrV_, qNotV_, qIf, qNil, qCons, qTup, qLst, qCB, qNext, qSeq, qRet, qRetN, qRetO_, qIfS, qAsg, qAsgO_, qPar, qParO_, qPar3, qPar3O_, qFrz_, qApN_, qStN_, qIxO_, qLend, qLendT, qNoPart, qPart_, qSl, qRevL_, qIsi_, qSplit_, qJoin_, qBits_, qIL_, qIT, qR1_, qR2_, qIS_, qIE_, qgN, qgNil, qgCons_, qgT_, qFor, qLc, qYes, qCall, qCallO_, kAdd, kI0_, kI_, kMul, kB0_, kEq, kNe, kIsN, kNotN, kIn, kNin, kLen_l, kLen_t, kLen_s, kAbs_, kMax2_, kInt_i, kInt_s, kStr_, kSum, kAll_, kAny_, kNeg_, dat_dt, dat_ow, dat_pw, toDt_dt, toDt_ow, toDt_pw, toDt_un, okSlot_dt, okSlot_ow, okSlot_un, okP_dt, okP_un, ownOf_ow, ownOf_pw, isN_n, isN_b, isN_i, isN_s, isN_l, isN_t, flatD_n, flatD_b, flatD_i, flatD_s, setOwn, ixq_l_, ixq_t_, ixq_s_, slq_l, slq_s, eqq_ii, eqq_ss, eqq_ll, eqq_tt, inn_l, inn_s, wipeR, freeV, mTup_t, mBool_b, mBoolS_b, mInt_i, mStr_s, mLst_l, mOpt_s, mOw_o, mOwn_o, mI1_i, mI2_i, mL1_l, show atI [PyData.int x, PyData.int y, PyData.int z] 0 = some (.int x) from rfl]
    by_cases hx : 0 < x
    · rw [if_pos hx]
      have dv : CDivW x b := cd hb0 (by omega)
      refine ⟨hb0, dv, ?_⟩
      rw [show ixN 3 0 = some 0 from rfl]
      simp only [mOpt_s]
      refine h _ _ (Int.emod_nonneg _ (by omega)) (Int.emod_lt_of_pos _ hb0) ⟨x / b, y, z, rfl, Int.ediv_nonneg g1 (by omega), ?_, g3, g4, g5, by omega⟩
      have := Int.ediv_le_self b g1
      have := Int.ediv_nonneg g1 (show 0 ≤ b by omega)
      omega
    · rw [if_neg hx]
      exact hK _ rfl
  rintro _ rfl
  refine seq_i (fun ρ' => ρ' = [.pw [.int x, .int y, .int z], .dt (.int b), .dt (.int 0), .un]) (fun K hK => ?_) ?_
  · simp [qVar_, qC, q2, q1, qTest_, qChain_, qAnd, qOr, qNot, qAndV_, qOrV_, qNotV_, qIf, qNil, qCons, qTup, qLst, qCB, qNext, qSeq, qRet, qRetN, qRetO_, qIfS, qAsg, qAsgO_, qPar, qParO_, qPar3, qPar3O_, qFrz_, qApN_, qStN_, qIxO_, qLend, qLendT, qNoPart, qPart_, qSl, qRevL_, qIsi_, qSplit_, qJoin_, qBits_, qIL_, qIT, qR1_, qR2_, qIS_, qIE_, qgN, qgNil, qgCons_, qgT_, qFor, qLc, qYes, qCall, qCallO_, kAdd, kI0_, kI_, kMul, kB0_, kEq, kNe, kIsN, kNotN, kIn, kNin, kLen_l, kLen_t, kLen_s, kAbs_, kMax2_, kInt_i, kInt_s, kStr_, kSum, kAll_, kAny_, kNeg_, dat_dt, dat_ow, dat_pw, toDt_dt, toDt_ow, toDt_pw, toDt_un, okSlot_dt, okSlot_ow, okSlot_un, okP_dt, okP_un, ownOf_ow, ownOf_pw, isN_n, isN_b, isN_i, isN_s, isN_l, isN_t, flatD_n, flatD_b, flatD_i, flatD_s, setOwn, ixq_l_, ixq_t_, ixq_s_, slq_l, slq_s, eqq_ii, eqq_ss, eqq_ll, eqq_tt, inn_l, inn_s, wipeR, freeV, mTup_t, mBool_b, mBoolS_b, mInt_i, mStr_s, mLst_l, mOpt_s, mOw_o, mOwn_o, mI1_i, mI2_i, mL1_l]
    exact hK _ rfl
  rintro _ rfl
  refine seq_i (fun ρ' => ∃ dr : Int, ρ' = [.pw [.int x, .int y, .int (z + 1)], .dt (.int b), .dt (.int dr), .dt (.int 0)]) (fun K hK => ?_) ?_
  · simp [qVar_, qC, q2, q1, qTest_, qChain_, qAnd, qOr, qNot, qAndV_, qOrV_, qNotV_, qIf, qNil, qCons, qTup, qLst, qCB, qNext, qSeq, qRet, qRetN, qRetO_, qIfS, qAsg, qAsgO_, qPar, qParO_, qPar3, qPar3O_, qFrz_, qApN_, qStN_, qIxO_, qLend, qLendT, qNoPart, qPart_, qSl, qRevL_, qIsi_, qSplit_, qJoin_, qBits_, qIL_, qIT, qR1_, qR2_, qIS_, qIE_, qgN, qgNil, qgCons_, qgT_, qFor, qLc, qYes, qCall, qCallO_, kAdd, kI0_, kI_, kMul, kB0_, kEq, kNe, kIsN, kNotN, kIn, kNin, kLen_l, kLen_t, kLen_s, kAbs_, kMax2_, kInt_i, kInt_s, kStr_, kSum, kAll_, kAny_, kNeg_, dat_dt, dat_ow, dat_pw, toDt_dt, toDt_ow, toDt_pw, toDt_un, okSlot_dt, okSlot_ow, okSlot_un, okP_dt, okP_un, ownOf_ow, ownOf_pw, isN_n, isN_b, isN_i, isN_s, isN_l, isN_t, flatD_n, flatD_b, flatD_i, flatD_s, setOwn, ixq_l_, ixq_t_, ixq_s_, slq_l, slq_s, eqq_ii, eqq_ss, eqq_ll, eqq_tt, inn_l, inn_s, wipeR, freeV, mTup_t, mBool_b, mBoolS_b, mInt_i, mStr_s, mLst_l, mOpt_s, mOw_o, mOwn_o, mI1_i, mI2_i, mL1_l]
    have hbits := bits30 hb0 hb1
    rw [hbits]
    refine ⟨cd (by decide) (by decide), ?_⟩
    simp
    refine ⟨fun i ρ => (i = 0 ∧ ρ = [.pw [.int x, .int y, .int z], .dt (.int b), .dt (.int 0), .un]) ∨ (i = 1 ∧ ∃ dr : Int, ρ = [.pw [.int x, .int y, .int (z + 1)], .dt (.int b), .dt (.int dr), .dt (.int 0)]), .inl ⟨rfl, rfl⟩, ?_, ?_⟩
    · rintro i d _ hd hI
      obtain ⟨hi, rfl⟩ := rngD_get hd
      rcases hI with ⟨rfl, rfl⟩ | ⟨rfl, _⟩
      · simp [qVar_, qC, q2, q1, qTest_, qChain_, qAnd, qOr, qNot, qAndV_, qOrV_, qNotV_, qIf, qNil, qCons, qTup, qLst, qCB, qNext, qSeq, qRet, qRetN, qRetO_, qIfS, qAsg, qAsgO_, qPar, qParO_, qPar3, qPar3O_, qFrz_, qApN_, qStN_, qIxO_, qLend, qLendT, qNoPart, qPart_, qSl, qRevL_, qIsi_, qSplit_, qJoin_, qBits_, qIL_, qIT, qR1_, qR2_, qIS_, qIE_, qgN, qgNil, qgCons_, qgT_, qFor, qLc, qYes, qCall, qCallO_, kAdd, kI0_, kI_, kMul, kB0_, kEq, kNe, kIsN, kNotN, kIn, kNin, kLen_l, kLen_t, kLen_s, kAbs_, kMax2_, kInt_i, kInt_s, kStr_, kSum, kAll_, kAny_, kNeg_, dat_dt, dat_ow, dat_pw, toDt_dt, toDt_ow, toDt_pw, toDt_un, okSlot_dt, okSlot_ow, okSlot_un, okP_dt, okP_un, ownOf_ow, ownOf_pw, isN_n, isN_b, isN_i, isN_s, isN_l, isN_t, flatD_n, flatD_b, flatD_i, flatD_s, setOwn, ixq_l_, ixq_t_, ixq_s_, slq_l, slq_s, eqq_ii, eqq_ss, eqq_ll, eqq_tt, inn_l, inn_s, wipeR, freeV, mTup_t, mBool_b, mBoolS_b, mInt_i, mStr_s, mLst_l, mOpt_s, mOw_o, mOwn_o, mI1_i, mI2_i, mL1_l, show atI [PyData.int x, PyData.int y, PyData.int z] 2 = some (.int z) from rfl, show ixN 3 2 = some 2 from rfl, show atI [PyData.int x, PyData.int y, PyData.int (z + 1)] 1 = some (.int y) from rfl, show atI [PyData.int x, PyData.int y, PyData.int (z + 1)] 2 = some (.int (z + 1)) from rfl]
        refine ⟨cm (by decide) (by decide), y, z + 1, rfl, by omega, by omega, fun r r0 r1 ys => ?_⟩
        simp [qVar_, qC, q2, q1, qTest_, qChain_, qAnd, qOr, qNot, qAndV_, qOrV_, qNotV_, qIf, qNil, qCons, qTup, qLst, qCB, qNext, qSeq, qRet, qRetN, qRetO_, qIfS, qAsg, qAsgO_, qPar, qParO_, qPar3, qPar3O_, qFrz_, qApN_, qStN_, qIxO_, qLend, qLendT, qNoPart, qPart_, qSl, qRevL_, qIsi_, qSplit_, qJoin_, qBits_, qIL_, qIT, qR1_, qR2_, qIS_, qIE_, qgN, qgNil, qgCons_, qgT_, qFor, qLc, qYes, qCall, qCallO_, kAdd, kI0_, kI_, kMul, kB0_, kEq, kNe, kIsN, kNotN, kIn, kNin, kLen_l, kLen_t, kLen_s, kAbs_, kMax2_, kInt_i, kInt_s, kStr_, kSum, kAll_, kAny_, kNeg_, dat_dt, dat_ow, dat_pw, toDt_dt, toDt_ow, toDt_pw, toDt_un, okSlot_dt, okSlot_ow, okSlot_un, okP_dt, okP_un, ownOf_ow, ownOf_pw, isN_n, isN_b, isN_i, isN_s, isN_l, isN_t, flatD_n, flatD_b, flatD_i, flatD_s, setOwn, ixq_l_, ixq_t_, ixq_s_, slq_l, slq_s, eqq_ii, eqq_ss, eqq_ll, eqq_tt, inn_l, inn_s, wipeR, freeV, mTup_t, mBool_b, mBoolS_b, mInt_i, mStr_s, mLst_l, mOpt_s, mOw_o, mOwn_o, mI1_i, mI2_i, mL1_l]
      · omega
    · rintro _ (⟨h1, _⟩ | ⟨_, dr, rfl⟩)
      · rw [rngD_len] at h1
        omega
      · exact hK _ ⟨dr, rfl⟩
  rintro _ ⟨dr, rfl⟩
  simp [qVar_, qC, q2, q1, qTest_, qChain_, qAnd, qOr, qNot, qAndV_, qOrV_, qNotV_, qIf, qNil, qCons, qTup, qLst, qCB, qNext, qSeq, qRet, qRetN, qRetO_, qIfS, qAsg, qAsgO_, qPar, qParO_, qPar3, qPar3O_, qFrz_, qApN_, qStN_, qIxO_, qLend, qLendT, qNoPart, qPart_, qSl, qRevL_, qIsi_, qSplit_, qJoin_, qBits_, qIL_, qIT, qR1_, qR2_, qIS_, qIE_, qgN, qgNil, qgCons_, qgT_, qFor, qLc, qYes, qCall, qCallO_, kAdd, kI0_, kI_, kMul, kB0_, kEq, kNe, kIsN, kNotN, kIn, kNin, kLen_l, kLen_t, kLen_s, kAbs_, kMax2_, kInt_i, kInt_s, kStr_, kSum, kAll_, kAny_, kNeg_, dat_dt, dat_ow, dat_pw, toDt_dt, toDt_ow, toDt_pw, toDt_un, okSlot_dt, okSlot_ow, okSlot_un, okP_dt, okP_un, ownOf_ow, ownOf_pw, isN_n, isN_b, isN_i, isN_s, isN_l, isN_t, flatD_n, flatD_b, flatD_i, flatD_s, setOwn, ixq_l_, ixq_t_, ixq_s_, slq_l, slq_s, eqq_ii, eqq_ss, eqq_ll, eqq_tt, inn_l, inn_s, wipeR, freeV, mTup_t, mBool_b, mBoolS_b, mInt_i, mStr_s, mLst_l, mOpt_s, mOw_o, mOwn_o, mI1_i, mI2_i, mL1_l]
  exact ⟨hb0, h _ _ (Int.emod_nonneg _ (by omega)) (Int.emod_lt_of_pos _ hb0) ⟨x, y, z + 1, rfl, g1, g2, g3, g4, by omega, by omega⟩⟩
theorem p__law_cell (as R) (h : d__law_cell as R) : as.length = 2 ∧ q__law_cell { nx := fun ρ => R (.dt .none) (pwOf ρ), rt := fun r ρ => R r (pwOf ρ) } (as ++ List.replicate (N__law_cell.length - 2) .un) := by
  obtain ⟨ns, i, rfl, h0, hl, h⟩ := h
  refine ⟨rfl, ?_⟩
  unfold q__law_cell
  simp [qVar_, qC, q2, q1, qTest_, qChain_, qAnd, qOr, qNot, qAndV_, qOrV_, qNotV_, qIf, qNil, qCons, qTup, qLst, qCB, qNext, qSeq, qRet, qRetN, qRetO_, qIfS, qAsg, qAsgO_, qPar, qParO_, qPar3, qPar3O_, qFrz_, qApN_, qStN_, qIxO_, qLend, qLendT, qNoPart, qPart_, qSl, qRevL_, qIsi_, qSplit_, qJoin_, qBits_, qIL_, qIT, qR1_, qR2_, qIS_, qIE_, qgN, qgNil, qgCons_, qgT_, qFor, qLc, qYes, qCall, qCallO_, kAdd, kI0_, kI_, kMul, kB0_, kEq, kNe, kIsN, kNotN, kIn, kNin, kLen_l, kLen_t, kLen_s, kAbs_, kMax2_, kInt_i, kInt_s, kStr_, kSum, kAll_, kAny_, kNeg_, dat_dt, dat_ow, dat_pw, toDt_dt, toDt_ow, toDt_pw, toDt_un, okSlot_dt, okSlot_ow, okSlot_un, okP_dt, okP_un, ownOf_ow, ownOf_pw, isN_n, isN_b, isN_i, isN_s, isN_l, isN_t, flatD_n, flatD_b, flatD_i, flatD_s, setOwn, ixq_l_, ixq_t_, ixq_s_, slq_l, slq_s, eqq_ii, eqq_ss, eqq_ll, eqq_tt, inn_l, inn_s, wipeR, freeV, mTup_t, mBool_b, mBoolS_b, mInt_i, mStr_s, mLst_l, mOpt_s, mOw_o, mOwn_o, mI1_i, mI2_i, mL1_l]
  by_cases hi : i < ns.length
  · rw [if_pos hi]
    obtain ⟨k, rfl⟩ := Int.eq_ofNat_of_zero_le h0
    have hk : k < ns.length := by omega
    have e : atI (ns.map PyData.int) (k : Int) = some (.int ns[k]) := by
      have e : ixN (ns.map PyData.int).length (k : Int) = some k := by unfold ixN; simp; omega
      unfold atI
      rw [e]
      show (ns.map PyData.int)[k]? = _
      rw [List.getElem?_map, List.getElem?_eq_getElem hk]
      rfl
    rw [e]
    exact h _ _
  · rw [if_neg hi]
    have e1 : DL.cutD (ns.map PyData.int) none (some 1) = (ns.take 1).map PyData.int := by
      rw [List.map_take]
      exact cutD_take (α := Nat) (ns.map PyData.int) 1
    rw [e1]
    refine ⟨ns.take 1, rfl, ?_⟩
    exact h _ _
theorem p__law_generator (as R) (h : d__law_generator as R) : as.length = 2 ∧ q__law_generator { nx := fun ρ => R (.dt .none) (pwOf ρ), rt := fun r ρ => R r (pwOf ρ) } (as ++ List.replicate (N__law_generator.length - 2) .un) := by
  obtain ⟨ns, i, rfl, h0, h1, hl, h⟩ := h
  refine ⟨rfl, ?_⟩
  unfold q__law_generator
  refine seq_i (fun ρ' => ∃ r : Int, ρ' = [.dt (.list (ns.map .int)), .dt (.int i), .dt (.int r)]) (fun K hK => ?_) ?_
  · simp [qVar_, qC, q2, q1, qTest_, qChain_, qAnd, qOr, qNot, qAndV_, qOrV_, qNotV_, qIf, qNil, qCons, qTup, qLst, qCB, qNext, qSeq, qRet, qRetN, qRetO_, qIfS, qAsg, qAsgO_, qPar, qParO_, qPar3, qPar3O_, qFrz_, qApN_, qStN_, qIxO_, qLend, qLendT, qNoPart, qPart_, qSl, qRevL_, qIsi_, qSplit_, qJoin_, qBits_, qIL_, qIT, qR1_, qR2_, qIS_, qIE_, qgN, qgNil, qgCons_, qgT_, qFor, qLc, qYes, qCall, qCallO_, kAdd, kI0_, kI_, kMul, kB0_, kEq, kNe, kIsN, kNotN, kIn, kNin, kLen_l, kLen_t, kLen_s, kAbs_, kMax2_, kInt_i, kInt_s, kStr_, kSum, kAll_, kAny_, kNeg_, dat_dt, dat_ow, dat_pw, toDt_dt, toDt_ow, toDt_pw, toDt_un, okSlot_dt, okSlot_ow, okSlot_un, okP_dt, okP_un, ownOf_ow, ownOf_pw, isN_n, isN_b, isN_i, isN_s, isN_l, isN_t, flatD_n, flatD_b, flatD_i, flatD_s, setOwn, ixq_l_, ixq_t_, ixq_s_, slq_l, slq_s, eqq_ii, eqq_ss, eqq_ll, eqq_tt, inn_l, inn_s, wipeR, freeV, mTup_t, mBool_b, mBoolS_b, mInt_i, mStr_s, mLst_l, mOpt_s, mOw_o, mOwn_o, mI1_i, mI2_i, mL1_l]
    exact ⟨ns, i, rfl, h0, hl, fun r ys => hK _ ⟨r, rfl⟩⟩
  rintro _ ⟨r, rfl⟩
  simp [qVar_, qC, q2, q1, qTest_, qChain_, qAnd, qOr, qNot, qAndV_, qOrV_, qNotV_, qIf, qNil, qCons, qTup, qLst, qCB, qNext, qSeq, qRet, qRetN, qRetO_, qIfS, qAsg, qAsgO_, qPar, qParO_, qPar3, qPar3O_, qFrz_, qApN_, qStN_, qIxO_, qLend, qLendT, qNoPart, qPart_, qSl, qRevL_, qIsi_, qSplit_, qJoin_, qBits_, qIL_, qIT, qR1_, qR2_, qIS_, qIE_, qgN, qgNil, qgCons_, qgT_, qFor, qLc, qYes, qCall, qCallO_, kAdd, kI0_, kI_, kMul, kB0_, kEq, kNe, kIsN, kNotN, kIn, kNin, kLen_l, kLen_t, kLen_s, kAbs_, kMax2_, kInt_i, kInt_s, kStr_, kSum, kAll_, kAny_, kNeg_, dat_dt, dat_ow, dat_pw, toDt_dt, toDt_ow, toDt_pw, toDt_un, okSlot_dt, okSlot_ow, okSlot_un, okP_dt, okP_un, ownOf_ow, ownOf_pw, isN_n, isN_b, isN_i, isN_s, isN_l, isN_t, flatD_n, flatD_b, flatD_i, flatD_s, setOwn, ixq_l_, ixq_t_, ixq_s_, slq_l, slq_s, eqq_ii, eqq_ss, eqq_ll, eqq_tt, inn_l, inn_s, wipeR, freeV, mTup_t, mBool_b, mBoolS_b, mInt_i, mStr_s, mLst_l, mOpt_s, mOw_o, mOwn_o, mI1_i, mI2_i, mL1_l]
  refine ⟨by unfold CPowW; decide +kernel, by unfold CPowW; decide +kernel, by unfold CPowW; decide +kernel, cm (by decide) (by omega), by decide, h _ _ ?_⟩
  have big : (0 : Int) < 10 ^ 600 := by decide +kernel
  have e1 := Int.emod_nonneg (if r - 1000000000000000000 < 0 then 0 else r - 1000000000000000000) (show (10 : Int) ^ 600 ≠ 0 by omega)
  have e2 := Int.emod_lt_of_pos (if r - 1000000000000000000 < 0 then 0 else r - 1000000000000000000) big
  have e3 : (10 : Int) ^ 600 = ((10 ^ 600 : Nat) : Int) := by decide +kernel
  refine ⟨_, _, _, rfl, e1, ?_, Int.emod_nonneg _ (by decide), Int.emod_lt_of_pos _ (by decide), by omega, by omega⟩
  rw [e3] at e1 e2
  show (_ % ((10 ^ 600 : Nat) : Int)).natAbs < 10 ^ 600
  generalize (10 ^ 600 : Nat) = B at *
  omega
theorem p__law_pick (as R) (h : d__law_pick as R) : as.length = 2 ∧ q__law_pick { nx := fun ρ => R (.dt .none) (pwOf ρ), rt := fun r ρ => R r (pwOf ρ) } (as ++ List.replicate (N__law_pick.length - 2) .un) := by
  obtain ⟨n, g, xs, rfl, hn, hg, hx, hl, h⟩ := h
  refine ⟨rfl, ?_⟩
  unfold q__law_pick
  have hlp : 0 < xs.length := List.length_pos_iff.mpr hx
  simp [qVar_, qC, q2, q1, qTest_, qChain_, qAnd, qOr, qNot, qAndV_, qOrV_, qNotV_, qIf, qNil, qCons, qTup, qLst, qCB, qNext, qSeq, qRet, qRetN, qRetO_, qIfS, qAsg, qAsgO_, qPar, qParO_, qPar3, qPar3O_, qFrz_, qApN_, qStN_, qIxO_, qLend, qLendT, qNoPart, qPart_, qSl, qRevL_, qIsi_, qSplit_, qJoin_, qBits_, qIL_, qIT, qR1_, qR2_, qIS_, qIE_, qgN, qgNil, qgCons_, qgT_, qFor, qLc, qYes, qCall, qCallO_, kAdd, kI0_, kI_, kMul, kB0_, kEq, kNe, kIsN, kNotN, kIn, kNin, kLen_l, kLen_t, kLen_s, kAbs_, kMax2_, kInt_i, kInt_s, kStr_, kSum, kAll_, kAny_, kNeg_, dat_dt, dat_ow, dat_pw, toDt_dt, toDt_ow, toDt_pw, toDt_un, okSlot_dt, okSlot_ow, okSlot_un, okP_dt, okP_un, ownOf_ow, ownOf_pw, isN_n, isN_b, isN_i, isN_s, isN_l, isN_t, flatD_n, flatD_b, flatD_i, flatD_s, setOwn, ixq_l_, ixq_t_, ixq_s_, slq_l, slq_s, eqq_ii, eqq_ss, eqq_ll, eqq_tt, inn_l, inn_s, wipeR, freeV, mTup_t, mBool_b, mBoolS_b, mInt_i, mStr_s, mLst_l, mOpt_s, mOw_o, mOwn_o, mI1_i, mI2_i, mL1_l]
  refine ⟨n, g, _, rfl, hn, hg, by omega, by omega, fun r g' r0 r1 hg' => ?_⟩
  obtain ⟨k, rfl⟩ := Int.eq_ofNat_of_zero_le r0
  have hk : k < xs.length := by omega
  have e : atI xs (k : Int) = some xs[k] := by
    have e : ixN xs.length (k : Int) = some k := by unfold ixN; simp; omega
    unfold atI
    rw [e]
    exact List.getElem?_eq_getElem hk
  simp only [dat_dt, ixq_l_, e, mOpt_s]
  exact h _ (List.getElem_mem hk) _ hg'
end K90
set_option Elab.async false
set_option linter.all false
set_option maxRecDepth 100000
set_option autoImplicit false
namespace K90
open PySem PySem.Spec PyProof.Rows L2 DL
theorem low_small {a b : Int} (ha : a.natAbs < 10) (h0 : 0 < b) (hb : b ≤ 2) : SmF (low a b) := by
  have hg := gcd_pos' (a := a) h0
  have hgi : (0 : Int) < (Int.gcd a b : Nat) := by omega
  obtain ⟨k, hk⟩ := Int.gcd_dvd_right a b
  obtain ⟨j, hj⟩ := Int.gcd_dvd_left a b
  have e2 : b / (Int.gcd a b : Nat) = k := by
    conv => lhs; lhs; rw [hk]
    exact Int.mul_ediv_cancel_left _ (by omega)
  have e1 : a / (Int.gcd a b : Nat) = j := by
    conv => lhs; lhs; rw [hj]
    exact Int.mul_ediv_cancel_left _ (by omega)
  have k0 : 0 < k := by
    have h0' := h0
    rw [hk] at h0'
    exact Int.pos_of_mul_pos_right h0' hgi
  refine ⟨?_, ?_, ?_⟩
  · show (a / (Int.gcd a b : Nat)).natAbs < 10
    rw [e1]
    refine Nat.lt_of_le_of_lt ?_ ha
    conv => rhs; rw [hj, Int.natAbs_mul]
    exact Nat.le_mul_of_pos_left _ (by simpa using hg)
  · show 0 < b / (Int.gcd a b : Nat)
    rw [e2]; exact k0
  · show b / (Int.gcd a b : Nat) ≤ 2
    exact Int.le_trans (Int.ediv_le_self _ (by omega)) hb
theorem SmF.ok {f : Fr} (h : SmF f) : OkF f := by
  obtain ⟨h1, h2, h3⟩ := h
  exact ⟨by omega, h2, by omega⟩
def IwP (n m i : Nat) (acc : List PyData) (ρ : List SD) : Prop := ∃ (r : List Fr) (g' : List PyData), acc = r.map frD ∧ r.length = i ∧ (∀ f ∈ r, SmF f) ∧ Gen (n + i) g' ∧ ρ = [.pw g', .dt (.int m), .un, .un, .un]
def IwQ (n m : Nat) (ρ : List SD) : Prop := ∃ (r : List Fr) (g' : List PyData), r.length = m ∧ (∀ f ∈ r, SmF f) ∧ Gen n g' ∧ ρ = [.pw g', .dt (.int m), .ow (r.map frD), .un, .un]
def pNz : PyData → Bool | .tuple [.int a, _] => decide (a ≠ 0) | _ => false
theorem p__law_plane (as R) (h : d__law_plane as R) : as.length = 2 ∧ q__law_plane { nx := fun ρ => R (.dt .none) (pwOf ρ), rt := fun r ρ => R r (pwOf ρ) } (as ++ List.replicate (N__law_plane.length - 2) .un) := by
  obtain ⟨n, m, g, rfl, hn, hg, hm1, hm3, h⟩ := h
  refine ⟨rfl, ?_⟩
  unfold q__law_plane
  refine seq_i (IwQ (n + m) m) (fun K hK => ?_) ?_
  · simp [qVar_, qC, q2, q1, qTest_, qChain_, qAnd, qOr, qNot, qAndV_, qOrV_, qNotV_, qIf, qNil, qCons, qTup, qLst, qCB, qNext, qSeq, qRet, qRetN, qRetO_, qIfS, qAsg, qAsgO_, qPar, qParO_, qPar3, qPar3O_, qFrz_, qApN_, qStN_, qIxO_, qLend, qLendT, qNoPart, qPart_, qSl, qRevL_, qIsi_, qSplit_, qJoin_, qBits_, qIL_, qIT, qR1_, qR2_, qIS_, qIE_, qgN, qgNil, qgCons_, qgT_, qFor, qLc, qYes, qCall, qCallO_, kAdd, kI0_, kI_, kMul, kB0_, kEq, kNe, kIsN, kNotN, kIn, kNin, kLen_l, kLen_t, kLen_s, kAbs_, kMax2_, kInt_i, kInt_s, kStr_, kSum, kAll_, kAny_, kNeg_, dat_dt, dat_ow, dat_pw, toDt_dt, toDt_ow, toDt_pw, toDt_un, okSlot_dt, okSlot_ow, okSlot_un, okP_dt, okP_un, ownOf_ow, ownOf_pw, isN_n, isN_b, isN_i, isN_s, isN_l, isN_t, flatD_n, flatD_b, flatD_i, flatD_s, setOwn, ixq_l_, ixq_t_, ixq_s_, slq_l, slq_s, eqq_ii, eqq_ss, eqq_ll, eqq_tt, inn_l, inn_s, wipeR, freeV, mTup_t, mBool_b, mBoolS_b, mInt_i, mStr_s, mLst_l, mOpt_s, mOw_o, mOwn_o, mI1_i, mI2_i, mL1_l]
    refine ⟨by omega, rfl, by rw [rngD_len]; exact Nat.le_trans hm3 (by decide), IwP n m, ⟨[], g, rfl, rfl, by simp, hg, rfl⟩, ?_, ?_⟩
    · rintro i acc _ d hd ⟨r, g', rfl, rfl, hr, hg', rfl⟩
      obtain ⟨hi, rfl⟩ := rngD_get hd
      simp [qVar_, qC, q2, q1, qTest_, qChain_, qAnd, qOr, qNot, qAndV_, qOrV_, qNotV_, qIf, qNil, qCons, qTup, qLst, qCB, qNext, qSeq, qRet, qRetN, qRetO_, qIfS, qAsg, qAsgO_, qPar, qParO_, qPar3, qPar3O_, qFrz_, qApN_, qStN_, qIxO_, qLend, qLendT, qNoPart, qPart_, qSl, qRevL_, qIsi_, qSplit_, qJoin_, qBits_, qIL_, qIT, qR1_, qR2_, qIS_, qIE_, qgN, qgNil, qgCons_, qgT_, qFor, qLc, qYes, qCall, qCallO_, kAdd, kI0_, kI_, kMul, kB0_, kEq, kNe, kIsN, kNotN, kIn, kNin, kLen_l, kLen_t, kLen_s, kAbs_, kMax2_, kInt_i, kInt_s, kStr_, kSum, kAll_, kAny_, kNeg_, dat_dt, dat_ow, dat_pw, toDt_dt, toDt_ow, toDt_pw, toDt_un, okSlot_dt, okSlot_ow, okSlot_un, okP_dt, okP_un, ownOf_ow, ownOf_pw, isN_n, isN_b, isN_i, isN_s, isN_l, isN_t, flatD_n, flatD_b, flatD_i, flatD_s, setOwn, ixq_l_, ixq_t_, ixq_s_, slq_l, slq_s, eqq_ii, eqq_ss, eqq_ll, eqq_tt, inn_l, inn_s, wipeR, freeV, mTup_t, mBool_b, mBoolS_b, mInt_i, mStr_s, mLst_l, mOpt_s, mOw_o, mOwn_o, mI1_i, mI2_i, mL1_l]
      refine ⟨n + r.length, g', 5, rfl, by omega, hg', by decide, by decide, fun z g2 z0 z1 hg2 => ?_⟩
      simp [qVar_, qC, q2, q1, qTest_, qChain_, qAnd, qOr, qNot, qAndV_, qOrV_, qNotV_, qIf, qNil, qCons, qTup, qLst, qCB, qNext, qSeq, qRet, qRetN, qRetO_, qIfS, qAsg, qAsgO_, qPar, qParO_, qPar3, qPar3O_, qFrz_, qApN_, qStN_, qIxO_, qLend, qLendT, qNoPart, qPart_, qSl, qRevL_, qIsi_, qSplit_, qJoin_, qBits_, qIL_, qIT, qR1_, qR2_, qIS_, qIE_, qgN, qgNil, qgCons_, qgT_, qFor, qLc, qYes, qCall, qCallO_, kAdd, kI0_, kI_, kMul, kB0_, kEq, kNe, kIsN, kNotN, kIn, kNin, kLen_l, kLen_t, kLen_s, kAbs_, kMax2_, kInt_i, kInt_s, kStr_, kSum, kAll_, kAny_, kNeg_, dat_dt, dat_ow, dat_pw, toDt_dt, toDt_ow, toDt_pw, toDt_un, okSlot_dt, okSlot_ow, okSlot_un, okP_dt, okP_un, ownOf_ow, ownOf_pw, isN_n, isN_b, isN_i, isN_s, isN_l, isN_t, flatD_n, flatD_b, flatD_i, flatD_s, setOwn, ixq_l_, ixq_t_, ixq_s_, slq_l, slq_s, eqq_ii, eqq_ss, eqq_ll, eqq_tt, inn_l, inn_s, wipeR, freeV, mTup_t, mBool_b, mBoolS_b, mInt_i, mStr_s, mLst_l, mOpt_s, mOw_o, mOwn_o, mI1_i, mI2_i, mL1_l]
      refine ⟨_, _, rfl, by decide, Nat.lt_of_lt_of_le (show (z - 2).natAbs < 10 by omega) (by decide), by decide, fun ys => ?_⟩
      simp [qVar_, qC, q2, q1, qTest_, qChain_, qAnd, qOr, qNot, qAndV_, qOrV_, qNotV_, qIf, qNil, qCons, qTup, qLst, qCB, qNext, qSeq, qRet, qRetN, qRetO_, qIfS, qAsg, qAsgO_, qPar, qParO_, qPar3, qPar3O_, qFrz_, qApN_, qStN_, qIxO_, qLend, qLendT, qNoPart, qPart_, qSl, qRevL_, qIsi_, qSplit_, qJoin_, qBits_, qIL_, qIT, qR1_, qR2_, qIS_, qIE_, qgN, qgNil, qgCons_, qgT_, qFor, qLc, qYes, qCall, qCallO_, kAdd, kI0_, kI_, kMul, kB0_, kEq, kNe, kIsN, kNotN, kIn, kNin, kLen_l, kLen_t, kLen_s, kAbs_, kMax2_, kInt_i, kInt_s, kStr_, kSum, kAll_, kAny_, kNeg_, dat_dt, dat_ow, dat_pw, toDt_dt, toDt_ow, toDt_pw, toDt_un, okSlot_dt, okSlot_ow, okSlot_un, okP_dt, okP_un, ownOf_ow, ownOf_pw, isN_n, isN_b, isN_i, isN_s, isN_l, isN_t, flatD_n, flatD_b, flatD_i, flatD_s, setOwn, ixq_l_, ixq_t_, ixq_s_, slq_l, slq_s, eqq_ii, eqq_ss, eqq_ll, eqq_tt, inn_l, inn_s, wipeR, freeV, mTup_t, mBool_b, mBoolS_b, mInt_i, mStr_s, mLst_l, mOpt_s, mOw_o, mOwn_o, mI1_i, mI2_i, mL1_l]
      refine ⟨r ++ [low (z - 2) 1], g2, by simp, by simp, fun f hf => ?_, hg2, rfl⟩
      rcases List.mem_append.mp hf with hf | hf
      · exact hr f hf
      · rw [List.mem_singleton.mp hf]
        exact low_small (by omega) (by decide) (by decide)
    · rintro acc _ ⟨r, g', rfl, hl, hr, hg', rfl⟩
      rw [rngD_len] at hl hg'
      simp [qVar_, qC, q2, q1, qTest_, qChain_, qAnd, qOr, qNot, qAndV_, qOrV_, qNotV_, qIf, qNil, qCons, qTup, qLst, qCB, qNext, qSeq, qRet, qRetN, qRetO_, qIfS, qAsg, qAsgO_, qPar, qParO_, qPar3, qPar3O_, qFrz_, qApN_, qStN_, qIxO_, qLend, qLendT, qNoPart, qPart_, qSl, qRevL_, qIsi_, qSplit_, qJoin_, qBits_, qIL_, qIT, qR1_, qR2_, qIS_, qIE_, qgN, qgNil, qgCons_, qgT_, qFor, qLc, qYes, qCall, qCallO_, kAdd, kI0_, kI_, kMul, kB0_, kEq, kNe, kIsN, kNotN, kIn, kNin, kLen_l, kLen_t, kLen_s, kAbs_, kMax2_, kInt_i, kInt_s, kStr_, kSum, kAll_, kAny_, kNeg_, dat_dt, dat_ow, dat_pw, toDt_dt, toDt_ow, toDt_pw, toDt_un, okSlot_dt, okSlot_ow, okSlot_un, okP_dt, okP_un, ownOf_ow, ownOf_pw, isN_n, isN_b, isN_i, isN_s, isN_l, isN_t, flatD_n, flatD_b, flatD_i, flatD_s, setOwn, ixq_l_, ixq_t_, ixq_s_, slq_l, slq_s, eqq_ii, eqq_ss, eqq_ll, eqq_tt, inn_l, inn_s, wipeR, freeV, mTup_t, mBool_b, mBoolS_b, mInt_i, mStr_s, mLst_l, mOpt_s, mOw_o, mOwn_o, mI1_i, mI2_i, mL1_l, unwipe]
      exact hK _ ⟨r, g', hl, hr, hg', rfl⟩
  rintro _ ⟨r, g', hl, hr, hg', rfl⟩
  refine seq_i (IwQ (n + m + 1) m) (fun K hK => ?_) ?_
  · simp [qVar_, qC, q2, q1, qTest_, qChain_, qAnd, qOr, qNot, qAndV_, qOrV_, qNotV_, qIf, qNil, qCons, qTup, qLst, qCB, qNext, qSeq, qRet, qRetN, qRetO_, qIfS, qAsg, qAsgO_, qPar, qParO_, qPar3, qPar3O_, qFrz_, qApN_, qStN_, qIxO_, qLend, qLendT, qNoPart, qPart_, qSl, qRevL_, qIsi_, qSplit_, qJoin_, qBits_, qIL_, qIT, qR1_, qR2_, qIS_, qIE_, qgN, qgNil, qgCons_, qgT_, qFor, qLc, qYes, qCall, qCallO_, kAdd, kI0_, kI_, kMul, kB0_, kEq, kNe, kIsN, kNotN, kIn, kNin, kLen_l, kLen_t, kLen_s, kAbs_, kMax2_, kInt_i, kInt_s, kStr_, kSum, kAll_, kAny_, kNeg_, dat_dt, dat_ow, dat_pw, toDt_dt, toDt_ow, toDt_pw, toDt_un, okSlot_dt, okSlot_ow, okSlot_un, okP_dt, okP_un, ownOf_ow, ownOf_pw, isN_n, isN_b, isN_i, isN_s, isN_l, isN_t, flatD_n, flatD_b, flatD_i, flatD_s, setOwn, ixq_l_, ixq_t_, ixq_s_, slq_l, slq_s, eqq_ii, eqq_ss, eqq_ll, eqq_tt, inn_l, inn_s, wipeR, freeV, mTup_t, mBool_b, mBoolS_b, mInt_i, mStr_s, mLst_l, mOpt_s, mOw_o, mOwn_o, mI1_i, mI2_i, mL1_l]
    refine lc_filter rfl (by simp; rw [hl]; exact Nat.le_trans hm3 (by decide)) rfl pNz id ?_ ?_
    · intro d hd Y N hY hN
      obtain ⟨f, hf, rfl⟩ := List.mem_map.mp hd
      have hp : pNz (frD f) = decide (f.1 ≠ 0) := rfl
      rw [hp] at hY hN
      simp [qVar_, qC, q2, q1, qTest_, qChain_, qAnd, qOr, qNot, qAndV_, qOrV_, qNotV_, qIf, qNil, qCons, qTup, qLst, qCB, qNext, qSeq, qRet, qRetN, qRetO_, qIfS, qAsg, qAsgO_, qPar, qParO_, qPar3, qPar3O_, qFrz_, qApN_, qStN_, qIxO_, qLend, qLendT, qNoPart, qPart_, qSl, qRevL_, qIsi_, qSplit_, qJoin_, qBits_, qIL_, qIT, qR1_, qR2_, qIS_, qIE_, qgN, qgNil, qgCons_, qgT_, qFor, qLc, qYes, qCall, qCallO_, kAdd, kI0_, kI_, kMul, kB0_, kEq, kNe, kIsN, kNotN, kIn, kNin, kLen_l, kLen_t, kLen_s, kAbs_, kMax2_, kInt_i, kInt_s, kStr_, kSum, kAll_, kAny_, kNeg_, dat_dt, dat_ow, dat_pw, toDt_dt, toDt_ow, toDt_pw, toDt_un, okSlot_dt, okSlot_ow, okSlot_un, okP_dt, okP_un, ownOf_ow, ownOf_pw, isN_n, isN_b, isN_i, isN_s, isN_l, isN_t, flatD_n, flatD_b, flatD_i, flatD_s, setOwn, ixq_l_, ixq_t_, ixq_s_, slq_l, slq_s, eqq_ii, eqq_ss, eqq_ll, eqq_tt, inn_l, inn_s, wipeR, freeV, mTup_t, mBool_b, mBoolS_b, mInt_i, mStr_s, mLst_l, mOpt_s, mOw_o, mOwn_o, mI1_i, mI2_i, mL1_l, frD, ix0]
      by_cases h0 : f.1 = 0
      · rw [if_pos h0]
        exact hN (by simp [h0])
      · rw [if_neg h0]
        exact hY (by simp [h0])
    · simp [qVar_, qC, q2, q1, qTest_, qChain_, qAnd, qOr, qNot, qAndV_, qOrV_, qNotV_, qIf, qNil, qCons, qTup, qLst, qCB, qNext, qSeq, qRet, qRetN, qRetO_, qIfS, qAsg, qAsgO_, qPar, qParO_, qPar3, qPar3O_, qFrz_, qApN_, qStN_, qIxO_, qLend, qLendT, qNoPart, qPart_, qSl, qRevL_, qIsi_, qSplit_, qJoin_, qBits_, qIL_, qIT, qR1_, qR2_, qIS_, qIE_, qgN, qgNil, qgCons_, qgT_, qFor, qLc, qYes, qCall, qCallO_, kAdd, kI0_, kI_, kMul, kB0_, kEq, kNe, kIsN, kNotN, kIn, kNin, kLen_l, kLen_t, kLen_s, kAbs_, kMax2_, kInt_i, kInt_s, kStr_, kSum, kAll_, kAny_, kNeg_, dat_dt, dat_ow, dat_pw, toDt_dt, toDt_ow, toDt_pw, toDt_un, okSlot_dt, okSlot_ow, okSlot_un, okP_dt, okP_un, ownOf_ow, ownOf_pw, isN_n, isN_b, isN_i, isN_s, isN_l, isN_t, flatD_n, flatD_b, flatD_i, flatD_s, setOwn, ixq_l_, ixq_t_, ixq_s_, slq_l, slq_s, eqq_ii, eqq_ss, eqq_ll, eqq_tt, inn_l, inn_s, wipeR, freeV, mTup_t, mBool_b, mBoolS_b, mInt_i, mStr_s, mLst_l, mOpt_s, mOw_o, mOwn_o, mI1_i, mI2_i, mL1_l, shaped_nil]
      refine ⟨(shq_list (n := 1) fun x hx => shq_frs x (List.mem_filter.mp hx).1).ok, ?_⟩
      rw [eqv_nil]
      cases hE : ((r.map frD).filter pNz).isEmpty with
      | true =>
        simp [qVar_, qC, q2, q1, qTest_, qChain_, qAnd, qOr, qNot, qAndV_, qOrV_, qNotV_, qIf, qNil, qCons, qTup, qLst, qCB, qNext, qSeq, qRet, qRetN, qRetO_, qIfS, qAsg, qAsgO_, qPar, qParO_, qPar3, qPar3O_, qFrz_, qApN_, qStN_, qIxO_, qLend, qLendT, qNoPart, qPart_, qSl, qRevL_, qIsi_, qSplit_, qJoin_, qBits_, qIL_, qIT, qR1_, qR2_, qIS_, qIE_, qgN, qgNil, qgCons_, qgT_, qFor, qLc, qYes, qCall, qCallO_, kAdd, kI0_, kI_, kMul, kB0_, kEq, kNe, kIsN, kNotN, kIn, kNin, kLen_l, kLen_t, kLen_s, kAbs_, kMax2_, kInt_i, kInt_s, kStr_, kSum, kAll_, kAny_, kNeg_, dat_dt, dat_ow, dat_pw, toDt_dt, toDt_ow, toDt_pw, toDt_un, okSlot_dt, okSlot_ow, okSlot_un, okP_dt, okP_un, ownOf_ow, ownOf_pw, isN_n, isN_b, isN_i, isN_s, isN_l, isN_t, flatD_n, flatD_b, flatD_i, flatD_s, setOwn, ixq_l_, ixq_t_, ixq_s_, slq_l, slq_s, eqq_ii, eqq_ss, eqq_ll, eqq_tt, inn_l, inn_s, wipeR, freeV, mTup_t, mBool_b, mBoolS_b, mInt_i, mStr_s, mLst_l, mOpt_s, mOw_o, mOwn_o, mI1_i, mI2_i, mL1_l]
        refine ⟨by decide, n + m, g', m, rfl, by omega, hg', by omega, by omega, fun z g2 z0 z1 hg2 => ?_⟩
        simp [qVar_, qC, q2, q1, qTest_, qChain_, qAnd, qOr, qNot, qAndV_, qOrV_, qNotV_, qIf, qNil, qCons, qTup, qLst, qCB, qNext, qSeq, qRet, qRetN, qRetO_, qIfS, qAsg, qAsgO_, qPar, qParO_, qPar3, qPar3O_, qFrz_, qApN_, qStN_, qIxO_, qLend, qLendT, qNoPart, qPart_, qSl, qRevL_, qIsi_, qSplit_, qJoin_, qBits_, qIL_, qIT, qR1_, qR2_, qIS_, qIE_, qgN, qgNil, qgCons_, qgT_, qFor, qLc, qYes, qCall, qCallO_, kAdd, kI0_, kI_, kMul, kB0_, kEq, kNe, kIsN, kNotN, kIn, kNin, kLen_l, kLen_t, kLen_s, kAbs_, kMax2_, kInt_i, kInt_s, kStr_, kSum, kAll_, kAny_, kNeg_, dat_dt, dat_ow, dat_pw, toDt_dt, toDt_ow, toDt_pw, toDt_un, okSlot_dt, okSlot_ow, okSlot_un, okP_dt, okP_un, ownOf_ow, ownOf_pw, isN_n, isN_b, isN_i, isN_s, isN_l, isN_t, flatD_n, flatD_b, flatD_i, flatD_s, setOwn, ixq_l_, ixq_t_, ixq_s_, slq_l, slq_s, eqq_ii, eqq_ss, eqq_ll, eqq_tt, inn_l, inn_s, wipeR, freeV, mTup_t, mBool_b, mBoolS_b, mInt_i, mStr_s, mLst_l, mOpt_s, mOw_o, mOwn_o, mI1_i, mI2_i, mL1_l]
        obtain ⟨k, rfl⟩ := Int.eq_ofNat_of_zero_le z0
        have e : ixN r.length (k : Int) = some k := by unfold ixN; simp; omega
        rw [e, mOpt_s]
        refine hK _ ⟨r.set k (1, 1), g2, by simp [hl], fun f hf => ?_, hg2, ?_⟩
        · rcases List.mem_or_eq_of_mem_set hf with hf | hf
          · exact hr f hf
          · subst hf
            exact ⟨by decide, by decide, by decide⟩
        · rw [List.map_set]; rfl
      | false =>
        simp [qVar_, qC, q2, q1, qTest_, qChain_, qAnd, qOr, qNot, qAndV_, qOrV_, qNotV_, qIf, qNil, qCons, qTup, qLst, qCB, qNext, qSeq, qRet, qRetN, qRetO_, qIfS, qAsg, qAsgO_, qPar, qParO_, qPar3, qPar3O_, qFrz_, qApN_, qStN_, qIxO_, qLend, qLendT, qNoPart, qPart_, qSl, qRevL_, qIsi_, qSplit_, qJoin_, qBits_, qIL_, qIT, qR1_, qR2_, qIS_, qIE_, qgN, qgNil, qgCons_, qgT_, qFor, qLc, qYes, qCall, qCallO_, kAdd, kI0_, kI_, kMul, kB0_, kEq, kNe, kIsN, kNotN, kIn, kNin, kLen_l, kLen_t, kLen_s, kAbs_, kMax2_, kInt_i, kInt_s, kStr_, kSum, kAll_, kAny_, kNeg_, dat_dt, dat_ow, dat_pw, toDt_dt, toDt_ow, toDt_pw, toDt_un, okSlot_dt, okSlot_ow, okSlot_un, okP_dt, okP_un, ownOf_ow, ownOf_pw, isN_n, isN_b, isN_i, isN_s, isN_l, isN_t, flatD_n, flatD_b, flatD_i, flatD_s, setOwn, ixq_l_, ixq_t_, ixq_s_, slq_l, slq_s, eqq_ii, eqq_ss, eqq_ll, eqq_tt, inn_l, inn_s, wipeR, freeV, mTup_t, mBool_b, mBoolS_b, mInt_i, mStr_s, mLst_l, mOpt_s, mOw_o, mOwn_o, mI1_i, mI2_i, mL1_l]
        exact hK _ ⟨r, g', hl, hr, hg'.up (by omega), rfl⟩
  rintro _ ⟨r, g', hl, hr, hg', rfl⟩
  simp [qVar_, qC, q2, q1, qTest_, qChain_, qAnd, qOr, qNot, qAndV_, qOrV_, qNotV_, qIf, qNil, qCons, qTup, qLst, qCB, qNext, qSeq, qRet, qRetN, qRetO_, qIfS, qAsg, qAsgO_, qPar, qParO_, qPar3, qPar3O_, qFrz_, qApN_, qStN_, qIxO_, qLend, qLendT, qNoPart, qPart_, qSl, qRevL_, qIsi_, qSplit_, qJoin_, qBits_, qIL_, qIT, qR1_, qR2_, qIS_, qIE_, qgN, qgNil, qgCons_, qgT_, qFor, qLc, qYes, qCall, qCallO_, kAdd, kI0_, kI_, kMul, kB0_, kEq, kNe, kIsN, kNotN, kIn, kNin, kLen_l, kLen_t, kLen_s, kAbs_, kMax2_, kInt_i, kInt_s, kStr_, kSum, kAll_, kAny_, kNeg_, dat_dt, dat_ow, dat_pw, toDt_dt, toDt_ow, toDt_pw, toDt_un, okSlot_dt, okSlot_ow, okSlot_un, okP_dt, okP_un, ownOf_ow, ownOf_pw, isN_n, isN_b, isN_i, isN_s, isN_l, isN_t, flatD_n, flatD_b, flatD_i, flatD_s, setOwn, ixq_l_, ixq_t_, ixq_s_, slq_l, slq_s, eqq_ii, eqq_ss, eqq_ll, eqq_tt, inn_l, inn_s, wipeR, freeV, mTup_t, mBool_b, mBoolS_b, mInt_i, mStr_s, mLst_l, mOpt_s, mOw_o, mOwn_o, mI1_i, mI2_i, mL1_l]
  refine ⟨n + m + 1, g', 7, rfl, by omega, hg', by decide, by decide, fun z g2 z0 z1 hg2 => ?_⟩
  simp [qVar_, qC, q2, q1, qTest_, qChain_, qAnd, qOr, qNot, qAndV_, qOrV_, qNotV_, qIf, qNil, qCons, qTup, qLst, qCB, qNext, qSeq, qRet, qRetN, qRetO_, qIfS, qAsg, qAsgO_, qPar, qParO_, qPar3, qPar3O_, qFrz_, qApN_, qStN_, qIxO_, qLend, qLendT, qNoPart, qPart_, qSl, qRevL_, qIsi_, qSplit_, qJoin_, qBits_, qIL_, qIT, qR1_, qR2_, qIS_, qIE_, qgN, qgNil, qgCons_, qgT_, qFor, qLc, qYes, qCall, qCallO_, kAdd, kI0_, kI_, kMul, kB0_, kEq, kNe, kIsN, kNotN, kIn, kNin, kLen_l, kLen_t, kLen_s, kAbs_, kMax2_, kInt_i, kInt_s, kStr_, kSum, kAll_, kAny_, kNeg_, dat_dt, dat_ow, dat_pw, toDt_dt, toDt_ow, toDt_pw, toDt_un, okSlot_dt, okSlot_ow, okSlot_un, okP_dt, okP_un, ownOf_ow, ownOf_pw, isN_n, isN_b, isN_i, isN_s, isN_l, isN_t, flatD_n, flatD_b, flatD_i, flatD_s, setOwn, ixq_l_, ixq_t_, ixq_s_, slq_l, slq_s, eqq_ii, eqq_ss, eqq_ll, eqq_tt, inn_l, inn_s, wipeR, freeV, mTup_t, mBool_b, mBoolS_b, mInt_i, mStr_s, mLst_l, mOpt_s, mOw_o, mOwn_o, mI1_i, mI2_i, mL1_l]
  refine ⟨n + m + 1 + 1, g2, 2, rfl, by omega, hg2, by decide, by decide, fun y g3 y0 y1 hg3 => ?_⟩
  simp [qVar_, qC, q2, q1, qTest_, qChain_, qAnd, qOr, qNot, qAndV_, qOrV_, qNotV_, qIf, qNil, qCons, qTup, qLst, qCB, qNext, qSeq, qRet, qRetN, qRetO_, qIfS, qAsg, qAsgO_, qPar, qParO_, qPar3, qPar3O_, qFrz_, qApN_, qStN_, qIxO_, qLend, qLendT, qNoPart, qPart_, qSl, qRevL_, qIsi_, qSplit_, qJoin_, qBits_, qIL_, qIT, qR1_, qR2_, qIS_, qIE_, qgN, qgNil, qgCons_, qgT_, qFor, qLc, qYes, qCall, qCallO_, kAdd, kI0_, kI_, kMul, kB0_, kEq, kNe, kIsN, kNotN, kIn, kNin, kLen_l, kLen_t, kLen_s, kAbs_, kMax2_, kInt_i, kInt_s, kStr_, kSum, kAll_, kAny_, kNeg_, dat_dt, dat_ow, dat_pw, toDt_dt, toDt_ow, toDt_pw, toDt_un, okSlot_dt, okSlot_ow, okSlot_un, okP_dt, okP_un, ownOf_ow, ownOf_pw, isN_n, isN_b, isN_i, isN_s, isN_l, isN_t, flatD_n, flatD_b, flatD_i, flatD_s, setOwn, ixq_l_, ixq_t_, ixq_s_, slq_l, slq_s, eqq_ii, eqq_ss, eqq_ll, eqq_tt, inn_l, inn_s, wipeR, freeV, mTup_t, mBool_b, mBoolS_b, mInt_i, mStr_s, mLst_l, mOpt_s, mOw_o, mOwn_o, mI1_i, mI2_i, mL1_l]
  refine ⟨_, _, rfl, by omega, Nat.lt_of_lt_of_le (show (z - 3).natAbs < 10 by omega) (by decide), Nat.lt_of_lt_of_le (show (1 + y).natAbs < 10 by omega) (by decide), fun ys => ?_⟩
  simp [qVar_, qC, q2, q1, qTest_, qChain_, qAnd, qOr, qNot, qAndV_, qOrV_, qNotV_, qIf, qNil, qCons, qTup, qLst, qCB, qNext, qSeq, qRet, qRetN, qRetO_, qIfS, qAsg, qAsgO_, qPar, qParO_, qPar3, qPar3O_, qFrz_, qApN_, qStN_, qIxO_, qLend, qLendT, qNoPart, qPart_, qSl, qRevL_, qIsi_, qSplit_, qJoin_, qBits_, qIL_, qIT, qR1_, qR2_, qIS_, qIE_, qgN, qgNil, qgCons_, qgT_, qFor, qLc, qYes, qCall, qCallO_, kAdd, kI0_, kI_, kMul, kB0_, kEq, kNe, kIsN, kNotN, kIn, kNin, kLen_l, kLen_t, kLen_s, kAbs_, kMax2_, kInt_i, kInt_s, kStr_, kSum, kAll_, kAny_, kNeg_, dat_dt, dat_ow, dat_pw, toDt_dt, toDt_ow, toDt_pw, toDt_un, okSlot_dt, okSlot_ow, okSlot_un, okP_dt, okP_un, ownOf_ow, ownOf_pw, isN_n, isN_b, isN_i, isN_s, isN_l, isN_t, flatD_n, flatD_b, flatD_i, flatD_s, setOwn, ixq_l_, ixq_t_, ixq_s_, slq_l, slq_s, eqq_ii, eqq_ss, eqq_ll, eqq_tt, inn_l, inn_s, wipeR, freeV, mTup_t, mBool_b, mBoolS_b, mInt_i, mStr_s, mLst_l, mOpt_s, mOw_o, mOwn_o, mI1_i, mI2_i, mL1_l]
  have := h (r ++ [low (z - 3) (1 + y)]) g3 ⟨by simp [hl], fun f hf => ?_⟩ (hg3.up (by omega))
  · have z5 : 5 ≤ sizeLine := by decide
    refine ⟨by omega, by omega, ?_⟩
    simpa [pwOf] using this
  · rcases List.mem_append.mp hf with hf | hf
    · exact hr f hf
    · rw [List.mem_singleton.mp hf]
      exact low_small (by omega) (by omega) (by omega)
def IwPs (n m : Nat) (i : Nat) (ρ : List SD) : Prop := ∃ (rs : List (List Fr)) (g' : List PyData) (s3 s4 : SD), okP (some s3) = true ∧ okP (some s4) = true ∧ (i = 0 → rs = []) ∧ (0 < i → 1 ≤ rs.length) ∧ rs.length ≤ i ∧ (∀ r ∈ rs, SmR m r) ∧ Gen (n + 2 + 10 * i) g' ∧
  ρ = [.pw g', .dt (.int m), .ow (rs.map rowD), s3, s4, .un]
theorem p__law_planes (as R) (h : d__law_planes as R) : as.length = 1 ∧ q__law_planes { nx := fun ρ => R (.dt .none) (pwOf ρ), rt := fun r ρ => R r (pwOf ρ) } (as ++ List.replicate (N__law_planes.length - 1) .un) := by
  obtain ⟨n, g, rfl, hn, hg, h⟩ := h
  refine ⟨rfl, ?_⟩
  unfold q__law_planes
  refine seq_i (fun ρ' => ∃ (m : Nat) (g' : List PyData), 1 ≤ m ∧ m ≤ 3 ∧ Gen (n + 1) g' ∧ ρ' = [.pw g', .dt (.int m), .un, .un, .un, .un]) (fun K hK => ?_) ?_
  · simp [qVar_, qC, q2, q1, qTest_, qChain_, qAnd, qOr, qNot, qAndV_, qOrV_, qNotV_, qIf, qNil, qCons, qTup, qLst, qCB, qNext, qSeq, qRet, qRetN, qRetO_, qIfS, qAsg, qAsgO_, qPar, qParO_, qPar3, qPar3O_, qFrz_, qApN_, qStN_, qIxO_, qLend, qLendT, qNoPart, qPart_, qSl, qRevL_, qIsi_, qSplit_, qJoin_, qBits_, qIL_, qIT, qR1_, qR2_, qIS_, qIE_, qgN, qgNil, qgCons_, qgT_, qFor, qLc, qYes, qCall, qCallO_, kAdd, kI0_, kI_, kMul, kB0_, kEq, kNe, kIsN, kNotN, kIn, kNin, kLen_l, kLen_t, kLen_s, kAbs_, kMax2_, kInt_i, kInt_s, kStr_, kSum, kAll_, kAny_, kNeg_, dat_dt, dat_ow, dat_pw, toDt_dt, toDt_ow, toDt_pw, toDt_un, okSlot_dt, okSlot_ow, okSlot_un, okP_dt, okP_un, ownOf_ow, ownOf_pw, isN_n, isN_b, isN_i, isN_s, isN_l, isN_t, flatD_n, flatD_b, flatD_i, flatD_s, setOwn, ixq_l_, ixq_t_, ixq_s_, slq_l, slq_s, eqq_ii, eqq_ss, eqq_ll, eqq_tt, inn_l, inn_s, wipeR, freeV, mTup_t, mBool_b, mBoolS_b, mInt_i, mStr_s, mLst_l, mOpt_s, mOw_o, mOwn_o, mI1_i, mI2_i, mL1_l]
    refine ⟨by decide, n, g, _, rfl, by omega, hg, by simp, by simp, fun x hx g' hg' => ?_⟩
    simp only [List.mem_cons, List.not_mem_nil, or_false] at hx
    have : ∃ m : Nat, 1 ≤ m ∧ m ≤ 3 ∧ x = .int m := by
      rcases hx with e | e | e | e | e <;> subst e
      · exact ⟨1, by decide, by decide, rfl⟩
      · exact ⟨2, by decide, by decide, rfl⟩
      · exact ⟨2, by decide, by decide, rfl⟩
      · exact ⟨2, by decide, by decide, rfl⟩
      · exact ⟨3, by decide, by decide, rfl⟩
    obtain ⟨m, h1, h3, rfl⟩ := this
    simp [qVar_, qC, q2, q1, qTest_, qChain_, qAnd, qOr, qNot, qAndV_, qOrV_, qNotV_, qIf, qNil, qCons, qTup, qLst, qCB, qNext, qSeq, qRet, qRetN, qRetO_, qIfS, qAsg, qAsgO_, qPar, qParO_, qPar3, qPar3O_, qFrz_, qApN_, qStN_, qIxO_, qLend, qLendT, qNoPart, qPart_, qSl, qRevL_, qIsi_, qSplit_, qJoin_, qBits_, qIL_, qIT, qR1_, qR2_, qIS_, qIE_, qgN, qgNil, qgCons_, qgT_, qFor, qLc, qYes, qCall, qCallO_, kAdd, kI0_, kI_, kMul, kB0_, kEq, kNe, kIsN, kNotN, kIn, kNin, kLen_l, kLen_t, kLen_s, kAbs_, kMax2_, kInt_i, kInt_s, kStr_, kSum, kAll_, kAny_, kNeg_, dat_dt, dat_ow, dat_pw, toDt_dt, toDt_ow, toDt_pw, toDt_un, okSlot_dt, okSlot_ow, okSlot_un, okP_dt, okP_un, ownOf_ow, ownOf_pw, isN_n, isN_b, isN_i, isN_s, isN_l, isN_t, flatD_n, flatD_b, flatD_i, flatD_s, setOwn, ixq_l_, ixq_t_, ixq_s_, slq_l, slq_s, eqq_ii, eqq_ss, eqq_ll, eqq_tt, inn_l, inn_s, wipeR, freeV, mTup_t, mBool_b, mBoolS_b, mInt_i, mStr_s, mLst_l, mOpt_s, mOw_o, mOwn_o, mI1_i, mI2_i, mL1_l]
    exact hK _ ⟨m, g', h1, h3, hg', rfl⟩
  rintro _ ⟨m, g', h1, h3, hg', rfl⟩
  refine seq_i (fun ρ' => ρ' = [.pw g', .dt (.int m), .ow [], .un, .un, .un]) (fun K hK => ?_) ?_
  · simp [qVar_, qC, q2, q1, qTest_, qChain_, qAnd, qOr, qNot, qAndV_, qOrV_, qNotV_, qIf, qNil, qCons, qTup, qLst, qCB, qNext, qSeq, qRet, qRetN, qRetO_, qIfS, qAsg, qAsgO_, qPar, qParO_, qPar3, qPar3O_, qFrz_, qApN_, qStN_, qIxO_, qLend, qLendT, qNoPart, qPart_, qSl, qRevL_, qIsi_, qSplit_, qJoin_, qBits_, qIL_, qIT, qR1_, qR2_, qIS_, qIE_, qgN, qgNil, qgCons_, qgT_, qFor, qLc, qYes, qCall, qCallO_, kAdd, kI0_, kI_, kMul, kB0_, kEq, kNe, kIsN, kNotN, kIn, kNin, kLen_l, kLen_t, kLen_s, kAbs_, kMax2_, kInt_i, kInt_s, kStr_, kSum, kAll_, kAny_, kNeg_, dat_dt, dat_ow, dat_pw, toDt_dt, toDt_ow, toDt_pw, toDt_un, okSlot_dt, okSlot_ow, okSlot_un, okP_dt, okP_un, ownOf_ow, ownOf_pw, isN_n, isN_b, isN_i, isN_s, isN_l, isN_t, flatD_n, flatD_b, flatD_i, flatD_s, setOwn, ixq_l_, ixq_t_, ixq_s_, slq_l, slq_s, eqq_ii, eqq_ss, eqq_ll, eqq_tt, inn_l, inn_s, wipeR, freeV, mTup_t, mBool_b, mBoolS_b, mInt_i, mStr_s, mLst_l, mOpt_s, mOw_o, mOwn_o, mI1_i, mI2_i, mL1_l]
    exact hK _ rfl
  rintro _ rfl
  refine seq_i (fun ρ' => ∃ N, 1 ≤ N ∧ N ≤ 5 ∧ IwPs n m N ρ') (fun K hK => ?_) ?_
  · simp [qVar_, qC, q2, q1, qTest_, qChain_, qAnd, qOr, qNot, qAndV_, qOrV_, qNotV_, qIf, qNil, qCons, qTup, qLst, qCB, qNext, qSeq, qRet, qRetN, qRetO_, qIfS, qAsg, qAsgO_, qPar, qParO_, qPar3, qPar3O_, qFrz_, qApN_, qStN_, qIxO_, qLend, qLendT, qNoPart, qPart_, qSl, qRevL_, qIsi_, qSplit_, qJoin_, qBits_, qIL_, qIT, qR1_, qR2_, qIS_, qIE_, qgN, qgNil, qgCons_, qgT_, qFor, qLc, qYes, qCall, qCallO_, kAdd, kI0_, kI_, kMul, kB0_, kEq, kNe, kIsN, kNotN, kIn, kNin, kLen_l, kLen_t, kLen_s, kAbs_, kMax2_, kInt_i, kInt_s, kStr_, kSum, kAll_, kAny_, kNeg_, dat_dt, dat_ow, dat_pw, toDt_dt, toDt_ow, toDt_pw, toDt_un, okSlot_dt, okSlot_ow, okSlot_un, okP_dt, okP_un, ownOf_ow, ownOf_pw, isN_n, isN_b, isN_i, isN_s, isN_l, isN_t, flatD_n, flatD_b, flatD_i, flatD_s, setOwn, ixq_l_, ixq_t_, ixq_s_, slq_l, slq_s, eqq_ii, eqq_ss, eqq_ll, eqq_tt, inn_l, inn_s, wipeR, freeV, mTup_t, mBool_b, mBoolS_b, mInt_i, mStr_s, mLst_l, mOpt_s, mOw_o, mOwn_o, mI1_i, mI2_i, mL1_l]
    have ea : ∃ t : Int, atI [PyData.int 5, PyData.int 5, PyData.int 4] ((m : Int) - 1) = some (.int t) ∧ 0 < t ∧ t ≤ 5 := by
      have : m = 1 ∨ m = 2 ∨ m = 3 := by omega
      rcases this with e | e | e <;> subst e
      · exact ⟨5, rfl, by decide, by decide⟩
      · exact ⟨5, rfl, by decide, by decide⟩
      · exact ⟨4, rfl, by decide, by decide⟩
    obtain ⟨t, e1, t0, t5⟩ := ea
    rw [e1]
    simp only [mOpt_s]
    refine ⟨by decide, n + 1, g', t, rfl, by omega, hg', by omega, by omega, fun z g2 z0 z1 hg2 => ?_⟩
    obtain ⟨k, rfl⟩ := Int.eq_ofNat_of_zero_le z0
    simp [qVar_, qC, q2, q1, qTest_, qChain_, qAnd, qOr, qNot, qAndV_, qOrV_, qNotV_, qIf, qNil, qCons, qTup, qLst, qCB, qNext, qSeq, qRet, qRetN, qRetO_, qIfS, qAsg, qAsgO_, qPar, qParO_, qPar3, qPar3O_, qFrz_, qApN_, qStN_, qIxO_, qLend, qLendT, qNoPart, qPart_, qSl, qRevL_, qIsi_, qSplit_, qJoin_, qBits_, qIL_, qIT, qR1_, qR2_, qIS_, qIE_, qgN, qgNil, qgCons_, qgT_, qFor, qLc, qYes, qCall, qCallO_, kAdd, kI0_, kI_, kMul, kB0_, kEq, kNe, kIsN, kNotN, kIn, kNin, kLen_l, kLen_t, kLen_s, kAbs_, kMax2_, kInt_i, kInt_s, kStr_, kSum, kAll_, kAny_, kNeg_, dat_dt, dat_ow, dat_pw, toDt_dt, toDt_ow, toDt_pw, toDt_un, okSlot_dt, okSlot_ow, okSlot_un, okP_dt, okP_un, ownOf_ow, ownOf_pw, isN_n, isN_b, isN_i, isN_s, isN_l, isN_t, flatD_n, flatD_b, flatD_i, flatD_s, setOwn, ixq_l_, ixq_t_, ixq_s_, slq_l, slq_s, eqq_ii, eqq_ss, eqq_ll, eqq_tt, inn_l, inn_s, wipeR, freeV, mTup_t, mBool_b, mBoolS_b, mInt_i, mStr_s, mLst_l, mOpt_s, mOw_o, mOwn_o, mI1_i, mI2_i, mL1_l]
    have ek : (1 + (k : Int)).toNat = k + 1 := by omega
    rw [ek]
    refine ⟨by omega, IwPs n m, ⟨[], g2, .un, .un, rfl, rfl, fun _ => rfl, fun h => absurd h (by decide), by simp, by simp, hg2, rfl⟩, ?_, ?_⟩
    · rintro i d _ hd ⟨rs, g3, s3, s4, o3, o4, hi0, hi1, hle, hrs, hg3, rfl⟩
      obtain ⟨hi, rfl⟩ := rngD_get hd
      simp [qVar_, qC, q2, q1, qTest_, qChain_, qAnd, qOr, qNot, qAndV_, qOrV_, qNotV_, qIf, qNil, qCons, qTup, qLst, qCB, qNext, qSeq, qRet, qRetN, qRetO_, qIfS, qAsg, qAsgO_, qPar, qParO_, qPar3, qPar3O_, qFrz_, qApN_, qStN_, qIxO_, qLend, qLendT, qNoPart, qPart_, qSl, qRevL_, qIsi_, qSplit_, qJoin_, qBits_, qIL_, qIT, qR1_, qR2_, qIS_, qIE_, qgN, qgNil, qgCons_, qgT_, qFor, qLc, qYes, qCall, qCallO_, kAdd, kI0_, kI_, kMul, kB0_, kEq, kNe, kIsN, kNotN, kIn, kNin, kLen_l, kLen_t, kLen_s, kAbs_, kMax2_, kInt_i, kInt_s, kStr_, kSum, kAll_, kAny_, kNeg_, dat_dt, dat_ow, dat_pw, toDt_dt, toDt_ow, toDt_pw, toDt_un, okSlot_dt, okSlot_ow, okSlot_un, okP_dt, okP_un, ownOf_ow, ownOf_pw, isN_n, isN_b, isN_i, isN_s, isN_l, isN_t, flatD_n, flatD_b, flatD_i, flatD_s, setOwn, ixq_l_, ixq_t_, ixq_s_, slq_l, slq_s, eqq_ii, eqq_ss, eqq_ll, eqq_tt, inn_l, inn_s, wipeR, freeV, mTup_t, mBool_b, mBoolS_b, mInt_i, mStr_s, mLst_l, mOpt_s, mOw_o, mOwn_o, mI1_i, mI2_i, mL1_l]
      refine ⟨o3, n + 2 + 10 * i, m, g3, rfl, by omega, hg3, h1, h3, fun r g4 hr hg4 => ?_⟩
      simp [qVar_, qC, q2, q1, qTest_, qChain_, qAnd, qOr, qNot, qAndV_, qOrV_, qNotV_, qIf, qNil, qCons, qTup, qLst, qCB, qNext, qSeq, qRet, qRetN, qRetO_, qIfS, qAsg, qAsgO_, qPar, qParO_, qPar3, qPar3O_, qFrz_, qApN_, qStN_, qIxO_, qLend, qLendT, qNoPart, qPart_, qSl, qRevL_, qIsi_, qSplit_, qJoin_, qBits_, qIL_, qIT, qR1_, qR2_, qIS_, qIE_, qgN, qgNil, qgCons_, qgT_, qFor, qLc, qYes, qCall, qCallO_, kAdd, kI0_, kI_, kMul, kB0_, kEq, kNe, kIsN, kNotN, kIn, kNin, kLen_l, kLen_t, kLen_s, kAbs_, kMax2_, kInt_i, kInt_s, kStr_, kSum, kAll_, kAny_, kNeg_, dat_dt, dat_ow, dat_pw, toDt_dt, toDt_ow, toDt_pw, toDt_un, okSlot_dt, okSlot_ow, okSlot_un, okP_dt, okP_un, ownOf_ow, ownOf_pw, isN_n, isN_b, isN_i, isN_s, isN_l, isN_t, flatD_n, flatD_b, flatD_i, flatD_s, setOwn, ixq_l_, ixq_t_, ixq_s_, slq_l, slq_s, eqq_ii, eqq_ss, eqq_ll, eqq_tt, inn_l, inn_s, wipeR, freeV, mTup_t, mBool_b, mBoolS_b, mInt_i, mStr_s, mLst_l, mOpt_s, mOw_o, mOwn_o, mI1_i, mI2_i, mL1_l]
      have o4' : okSlot (some s4) = true := okSlot_of o4
      refine ⟨o4', ?_⟩
      refine lc_filter (xs := rs.map rowD) rfl (by simp; exact Nat.le_trans hle (Nat.le_trans (show i ≤ 10 by omega) (by decide))) rfl (fun d => sameR (unR d) r) id ?_ ?_
      · intro d hd Y N hY hN
        obtain ⟨x, hx, rfl⟩ := List.mem_map.mp hd
        obtain ⟨q1, q2⟩ := hrs x hx
        obtain ⟨q3, q4⟩ := hr
        rw [unR_rowD] at hY hN
        simp [qVar_, qC, q2, q1, qTest_, qChain_, qAnd, qOr, qNot, qAndV_, qOrV_, qNotV_, qIf, qNil, qCons, qTup, qLst, qCB, qNext, qSeq, qRet, qRetN, qRetO_, qIfS, qAsg, qAsgO_, qPar, qParO_, qPar3, qPar3O_, qFrz_, qApN_, qStN_, qIxO_, qLend, qLendT, qNoPart, qPart_, qSl, qRevL_, qIsi_, qSplit_, qJoin_, qBits_, qIL_, qIT, qR1_, qR2_, qIS_, qIE_, qgN, qgNil, qgCons_, qgT_, qFor, qLc, qYes, qCall, qCallO_, kAdd, kI0_, kI_, kMul, kB0_, kEq, kNe, kIsN, kNotN, kIn, kNin, kLen_l, kLen_t, kLen_s, kAbs_, kMax2_, kInt_i, kInt_s, kStr_, kSum, kAll_, kAny_, kNeg_, dat_dt, dat_ow, dat_pw, toDt_dt, toDt_ow, toDt_pw, toDt_un, okSlot_dt, okSlot_ow, okSlot_un, okP_dt, okP_un, ownOf_ow, ownOf_pw, isN_n, isN_b, isN_i, isN_s, isN_l, isN_t, flatD_n, flatD_b, flatD_i, flatD_s, setOwn, ixq_l_, ixq_t_, ixq_s_, slq_l, slq_s, eqq_ii, eqq_ss, eqq_ll, eqq_tt, inn_l, inn_s, wipeR, freeV, mTup_t, mBool_b, mBoolS_b, mInt_i, mStr_s, mLst_l, mOpt_s, mOw_o, mOwn_o, mI1_i, mI2_i, mL1_l]
        refine ⟨r, x, rfl, by omega, by omega, fun f hf => (q4 f hf).ok, fun f hf => (q2 f hf).ok, fun ys => ?_⟩
        simp only [dat_dt, mBool_b]
        cases hq : sameR x r with
        | true => exact hY hq
        | false => exact hN hq
      · simp [qVar_, qC, q2, q1, qTest_, qChain_, qAnd, qOr, qNot, qAndV_, qOrV_, qNotV_, qIf, qNil, qCons, qTup, qLst, qCB, qNext, qSeq, qRet, qRetN, qRetO_, qIfS, qAsg, qAsgO_, qPar, qParO_, qPar3, qPar3O_, qFrz_, qApN_, qStN_, qIxO_, qLend, qLendT, qNoPart, qPart_, qSl, qRevL_, qIsi_, qSplit_, qJoin_, qBits_, qIL_, qIT, qR1_, qR2_, qIS_, qIE_, qgN, qgNil, qgCons_, qgT_, qFor, qLc, qYes, qCall, qCallO_, kAdd, kI0_, kI_, kMul, kB0_, kEq, kNe, kIsN, kNotN, kIn, kNin, kLen_l, kLen_t, kLen_s, kAbs_, kMax2_, kInt_i, kInt_s, kStr_, kSum, kAll_, kAny_, kNeg_, dat_dt, dat_ow, dat_pw, toDt_dt, toDt_ow, toDt_pw, toDt_un, okSlot_dt, okSlot_ow, okSlot_un, okP_dt, okP_un, ownOf_ow, ownOf_pw, isN_n, isN_b, isN_i, isN_s, isN_l, isN_t, flatD_n, flatD_b, flatD_i, flatD_s, setOwn, ixq_l_, ixq_t_, ixq_s_, slq_l, slq_s, eqq_ii, eqq_ss, eqq_ll, eqq_tt, inn_l, inn_s, wipeR, freeV, mTup_t, mBool_b, mBoolS_b, mInt_i, mStr_s, mLst_l, mOpt_s, mOw_o, mOwn_o, mI1_i, mI2_i, mL1_l, shaped_nil]
        refine ⟨(shq_list (n := 2) fun x hx => shq_rows x (List.mem_filter.mp hx).1).ok, ?_⟩
        rw [eqv_nil]
        cases hE : ((rs.map rowD).filter fun d => sameR (unR d) r).isEmpty with
        | true =>
          simp [qVar_, qC, q2, q1, qTest_, qChain_, qAnd, qOr, qNot, qAndV_, qOrV_, qNotV_, qIf, qNil, qCons, qTup, qLst, qCB, qNext, qSeq, qRet, qRetN, qRetO_, qIfS, qAsg, qAsgO_, qPar, qParO_, qPar3, qPar3O_, qFrz_, qApN_, qStN_, qIxO_, qLend, qLendT, qNoPart, qPart_, qSl, qRevL_, qIsi_, qSplit_, qJoin_, qBits_, qIL_, qIT, qR1_, qR2_, qIS_, qIE_, qgN, qgNil, qgCons_, qgT_, qFor, qLc, qYes, qCall, qCallO_, kAdd, kI0_, kI_, kMul, kB0_, kEq, kNe, kIsN, kNotN, kIn, kNin, kLen_l, kLen_t, kLen_s, kAbs_, kMax2_, kInt_i, kInt_s, kStr_, kSum, kAll_, kAny_, kNeg_, dat_dt, dat_ow, dat_pw, toDt_dt, toDt_ow, toDt_pw, toDt_un, okSlot_dt, okSlot_ow, okSlot_un, okP_dt, okP_un, ownOf_ow, ownOf_pw, isN_n, isN_b, isN_i, isN_s, isN_l, isN_t, flatD_n, flatD_b, flatD_i, flatD_s, setOwn, ixq_l_, ixq_t_, ixq_s_, slq_l, slq_s, eqq_ii, eqq_ss, eqq_ll, eqq_tt, inn_l, inn_s, wipeR, freeV, mTup_t, mBool_b, mBoolS_b, mInt_i, mStr_s, mLst_l, mOpt_s, mOw_o, mOwn_o, mI1_i, mI2_i, mL1_l]
          refine ⟨Nat.lt_of_le_of_lt hle (Nat.lt_of_lt_of_le (show i < 10 by omega) (by decide)), ?_⟩
          refine ⟨rs ++ [r], g4, .dt (.int i), .dt (rowD r), rfl, rfl, fun h => absurd h (by omega), fun _ => by simp, by simp; omega, fun x hx => ?_, hg4.up (by omega), by rw [List.map_append]; rfl⟩
          rcases List.mem_append.mp hx with hx | hx
          · exact hrs x hx
          · rw [List.mem_singleton.mp hx]; exact hr
        | false =>
          simp [qVar_, qC, q2, q1, qTest_, qChain_, qAnd, qOr, qNot, qAndV_, qOrV_, qNotV_, qIf, qNil, qCons, qTup, qLst, qCB, qNext, qSeq, qRet, qRetN, qRetO_, qIfS, qAsg, qAsgO_, qPar, qParO_, qPar3, qPar3O_, qFrz_, qApN_, qStN_, qIxO_, qLend, qLendT, qNoPart, qPart_, qSl, qRevL_, qIsi_, qSplit_, qJoin_, qBits_, qIL_, qIT, qR1_, qR2_, qIS_, qIE_, qgN, qgNil, qgCons_, qgT_, qFor, qLc, qYes, qCall, qCallO_, kAdd, kI0_, kI_, kMul, kB0_, kEq, kNe, kIsN, kNotN, kIn, kNin, kLen_l, kLen_t, kLen_s, kAbs_, kMax2_, kInt_i, kInt_s, kStr_, kSum, kAll_, kAny_, kNeg_, dat_dt, dat_ow, dat_pw, toDt_dt, toDt_ow, toDt_pw, toDt_un, okSlot_dt, okSlot_ow, okSlot_un, okP_dt, okP_un, ownOf_ow, ownOf_pw, isN_n, isN_b, isN_i, isN_s, isN_l, isN_t, flatD_n, flatD_b, flatD_i, flatD_s, setOwn, ixq_l_, ixq_t_, ixq_s_, slq_l, slq_s, eqq_ii, eqq_ss, eqq_ll, eqq_tt, inn_l, inn_s, wipeR, freeV, mTup_t, mBool_b, mBoolS_b, mInt_i, mStr_s, mLst_l, mOpt_s, mOw_o, mOwn_o, mI1_i, mI2_i, mL1_l]
          have hi : 0 < i := by
            rcases Nat.eq_zero_or_pos i with e | e
            · rw [hi0 e] at hE
              cases hE
            · exact e
          exact ⟨rs, g4, .dt (.int i), .dt (rowD r), rfl, rfl, fun h => absurd h (by omega), fun _ => hi1 hi, by omega, hrs, hg4.up (by omega), rfl⟩
    · rintro _ ⟨rs, g3, s3, s4, o3, o4, hi0, hi1, hle, hrs, hg3, rfl⟩
      rw [rngD_len] at hi1 hle hg3
      exact hK _ ⟨k + 1, by omega, by omega, rs, g3, s3, s4, o3, o4, fun h => absurd h (by omega), fun _ => hi1 (by omega), hle, hrs, hg3, rfl⟩
  rintro _ ⟨N, hN1, hN5, rs, g3, s3, s4, o3, o4, hi0, hi1, hle, hrs, hg3, rfl⟩
  simp [qVar_, qC, q2, q1, qTest_, qChain_, qAnd, qOr, qNot, qAndV_, qOrV_, qNotV_, qIf, qNil, qCons, qTup, qLst, qCB, qNext, qSeq, qRet, qRetN, qRetO_, qIfS, qAsg, qAsgO_, qPar, qParO_, qPar3, qPar3O_, qFrz_, qApN_, qStN_, qIxO_, qLend, qLendT, qNoPart, qPart_, qSl, qRevL_, qIsi_, qSplit_, qJoin_, qBits_, qIL_, qIT, qR1_, qR2_, qIS_, qIE_, qgN, qgNil, qgCons_, qgT_, qFor, qLc, qYes, qCall, qCallO_, kAdd, kI0_, kI_, kMul, kB0_, kEq, kNe, kIsN, kNotN, kIn, kNin, kLen_l, kLen_t, kLen_s, kAbs_, kMax2_, kInt_i, kInt_s, kStr_, kSum, kAll_, kAny_, kNeg_, dat_dt, dat_ow, dat_pw, toDt_dt, toDt_ow, toDt_pw, toDt_un, okSlot_dt, okSlot_ow, okSlot_un, okP_dt, okP_un, ownOf_ow, ownOf_pw, isN_n, isN_b, isN_i, isN_s, isN_l, isN_t, flatD_n, flatD_b, flatD_i, flatD_s, setOwn, ixq_l_, ixq_t_, ixq_s_, slq_l, slq_s, eqq_ii, eqq_ss, eqq_ll, eqq_tt, inn_l, inn_s, wipeR, freeV, mTup_t, mBool_b, mBoolS_b, mInt_i, mStr_s, mLst_l, mOpt_s, mOw_o, mOwn_o, mI1_i, mI2_i, mL1_l]
  exact ⟨by decide, h m rs g3 ⟨h1, h3, hi1 (by omega), by omega, hrs⟩ (hg3.up (by omega))⟩
end K90
set_option Elab.async false
set_option linter.all false
set_option maxRecDepth 100000
set_option autoImplicit false
namespace K90
open PySem PySem.Spec PyProof.Rows L2 DL
theorem p__law_word (as R) (h : d__law_word as R) : as.length = 1 ∧ q__law_word { nx := fun ρ => R (.dt .none) (pwOf ρ), rt := fun r ρ => R r (pwOf ρ) } (as ++ List.replicate (N__law_word.length - 1) .un) := by
  exact p_fraction_words as R h
/-- signs in reach -/
def asc (x : Str) : Prop := ∀ c ∈ codes x, c < 1114112
theorem asc_of (s : String) : asc (Str.ofString s) := by
  intro c hc
  unfold codes at hc
  rw [PySem.Str.ofString_eq_toList] at hc
  obtain ⟨ch, _, rfl⟩ := List.mem_map.mp (by simpa using hc)
  have := ch.valid
  unfold UInt32.isValidChar Nat.isValidChar at this
  show ch.val.toNat < 1114112
  omega
theorem codes_app (a b : Str) : codes (a ++ b) = codes a ++ codes b := TL.tl_append a b
theorem asc.app {a b : Str} (h1 : asc a) (h2 : asc b) : asc (a ++ b) := by
  intro c hc
  rw [codes_app] at hc
  rcases List.mem_append.mp hc with z | z
  · exact h1 c z
  · exact h2 c z
theorem asc.cut {x : Str} {lo hi : Option Int} (h : asc x) : asc (cutS x lo hi) := fun c hc => h c (cutS_facts.1 c hc)
theorem asc_num (i : Int) : asc (num i) := asc_of _
theorem asc_fw (f : Fr) : asc (fw f) := by
  unfold fw
  split
  · exact asc_num _
  · exact ((asc_num _).app (asc_of "/")).app (asc_num _)
theorem fw_len {f : Fr} (h1 : f.1.natAbs < 10 ^ 30) (h2 : f.2.natAbs < 10 ^ 30) : (fw f).length ≤ 63 := by
  unfold fw
  have l1 := num_len h1
  have l2 := num_len h2
  have l0 : ("/" : Str).length = 1 := by decide
  split
  · omega
  · rw [str_app_len, str_app_len]
    omega
/-! ### joined -/
theorem joinL_facts (S : List Nat) : ∀ ls : List (List Nat), (TL.joinL S ls).length ≤ (ls.map (·.length)).sum + ls.length * S.length ∧ ∀ c ∈ TL.joinL S ls, c ∈ S ∨ ∃ l ∈ ls, c ∈ l
  | [] => ⟨by simp [TL.joinL], fun c hc => by cases hc⟩
  | [p] => ⟨by simp [TL.joinL], fun c hc => .inr ⟨p, by simp, hc⟩⟩
  | p :: q :: r => by
    obtain ⟨h1, h2⟩ := joinL_facts S (q :: r)
    refine ⟨?_, fun c hc => ?_⟩
    · show (p ++ (S ++ TL.joinL S (q :: r))).length ≤ _
      rw [List.length_append, List.length_append, List.map_cons, List.sum_cons, List.length_cons (as := q :: r), Nat.succ_mul]
      omega
    · have hc' : c ∈ p ++ (S ++ TL.joinL S (q :: r)) := hc
      rcases List.mem_append.mp hc' with z | z
      · exact .inr ⟨p, by simp, z⟩
      · rcases List.mem_append.mp z with z | z
        · exact .inl z
        · rcases h2 c z with z | ⟨l, hl, z⟩
          · exact .inl z
          · exact .inr ⟨l, List.mem_cons_of_mem _ hl, z⟩
theorem codes_join (y : Str) (ls : List Str) : codes (Txt.join y ls) = TL.joinL (codes y) (ls.map codes) := by
  rw [TL.join_eq]
  exact TL.tl_join y ls
theorem len_codes (x : Str) : (codes x).length = x.length := lenS x
theorem sum_codes (ls : List Str) : ((ls.map codes).map (·.length)).sum = (ls.map (·.length)).sum := by
  rw [List.map_map]
  refine congrArg _ (List.map_congr_left fun x _ => len_codes x)
theorem join_len (y : Str) (ls : List Str) : (Txt.join y ls).length ≤ (ls.map (·.length)).sum + ls.length * y.length := by
  have := (joinL_facts (codes y) (ls.map codes)).1
  rw [← codes_join, len_codes, sum_codes, List.length_map, len_codes] at this
  exact this
theorem asc_join {y : Str} {ls : List Str} (hy : asc y) (h : ∀ l ∈ ls, asc l) : asc (Txt.join y ls) := by
  intro c hc
  rw [codes_join] at hc
  rcases (joinL_facts _ _).2 c hc with z | ⟨l, hl, z⟩
  · exact hy c z
  · obtain ⟨x, hx, rfl⟩ := List.mem_map.mp hl
    exact h x hx c z
theorem sum_le {ls : List Str} {B : Nat} (h : ∀ l ∈ ls, l.length ≤ B) : (ls.map (·.length)).sum ≤ ls.length * B := by
  induction ls with
  | nil => simp
  | cons x r ih =>
    rw [List.map_cons, List.sum_cons, List.length_cons, Nat.succ_mul]
    have := h x (by simp)
    have := ih fun l hl => h l (by simp [hl])
    omega
theorem sm10 {n : Nat} (h : n < 1000) : n < 10 ^ 30 := Nat.lt_trans h (by decide)
theorem p__law_words (as R) (h : d__law_words as R) : as.length = 1 ∧ q__law_words { nx := fun ρ => R (.dt .none) (pwOf ρ), rt := fun r ρ => R r (pwOf ρ) } (as ++ List.replicate (N__law_words.length - 1) .un) := by
  obtain ⟨r, rfl, hl, hr, h⟩ := h
  refine ⟨rfl, ?_⟩
  unfold q__law_words rowD
  simp [qVar_, qC, q2, q1, qTest_, qChain_, qAnd, qOr, qNot, qAndV_, qOrV_, qNotV_, qIf, qNil, qCons, qTup, qLst, qCB, qNext, qSeq, qRet, qRetN, qRetO_, qIfS, qAsg, qAsgO_, qPar, qParO_, qPar3, qPar3O_, qFrz_, qApN_, qStN_, qIxO_, qLend, qLendT, qNoPart, qPart_, qSl, qRevL_, qIsi_, qSplit_, qJoin_, qBits_, qIL_, qIT, qR1_, qR2_, qIS_, qIE_, qgN, qgNil, qgCons_, qgT_, qFor, qLc, qYes, qCall, qCallO_, kAdd, kI0_, kI_, kMul, kB0_, kEq, kNe, kIsN, kNotN, kIn, kNin, kLen_l, kLen_t, kLen_s, kAbs_, kMax2_, kInt_i, kInt_s, kStr_, kSum, kAll_, kAny_, kNeg_, dat_dt, dat_ow, dat_pw, toDt_dt, toDt_ow, toDt_pw, toDt_un, okSlot_dt, okSlot_ow, okSlot_un, okP_dt, okP_un, ownOf_ow, ownOf_pw, isN_n, isN_b, isN_i, isN_s, isN_l, isN_t, flatD_n, flatD_b, flatD_i, flatD_s, setOwn, ixq_l_, ixq_t_, ixq_s_, slq_l, slq_s, eqq_ii, eqq_ss, eqq_ll, eqq_tt, inn_l, inn_s, wipeR, freeV, mTup_t, mBool_b, mBoolS_b, mInt_i, mStr_s, mLst_l, mOpt_s, mOw_o, mOwn_o, mI1_i, mI2_i, mL1_l]
  refine lc_map rfl (by simp; exact Nat.le_trans hl (by decide)) rfl (fun d => .str (fw (unF d))) ?_ ?_
  · intro d hd Y hY
    obtain ⟨f, hf, rfl⟩ := List.mem_map.mp hd
    have e : unF (frD f) = f := rfl
    rw [e] at hY
    simp [qVar_, qC, q2, q1, qTest_, qChain_, qAnd, qOr, qNot, qAndV_, qOrV_, qNotV_, qIf, qNil, qCons, qTup, qLst, qCB, qNext, qSeq, qRet, qRetN, qRetO_, qIfS, qAsg, qAsgO_, qPar, qParO_, qPar3, qPar3O_, qFrz_, qApN_, qStN_, qIxO_, qLend, qLendT, qNoPart, qPart_, qSl, qRevL_, qIsi_, qSplit_, qJoin_, qBits_, qIL_, qIT, qR1_, qR2_, qIS_, qIE_, qgN, qgNil, qgCons_, qgT_, qFor, qLc, qYes, qCall, qCallO_, kAdd, kI0_, kI_, kMul, kB0_, kEq, kNe, kIsN, kNotN, kIn, kNin, kLen_l, kLen_t, kLen_s, kAbs_, kMax2_, kInt_i, kInt_s, kStr_, kSum, kAll_, kAny_, kNeg_, dat_dt, dat_ow, dat_pw, toDt_dt, toDt_ow, toDt_pw, toDt_un, okSlot_dt, okSlot_ow, okSlot_un, okP_dt, okP_un, ownOf_ow, ownOf_pw, isN_n, isN_b, isN_i, isN_s, isN_l, isN_t, flatD_n, flatD_b, flatD_i, flatD_s, setOwn, ixq_l_, ixq_t_, ixq_s_, slq_l, slq_s, eqq_ii, eqq_ss, eqq_ll, eqq_tt, inn_l, inn_s, wipeR, freeV, mTup_t, mBool_b, mBoolS_b, mInt_i, mStr_s, mLst_l, mOpt_s, mOw_o, mOwn_o, mI1_i, mI2_i, mL1_l]
    exact ⟨f, rfl, sm10 (hr f hf).1, sm10 (hr f hf).2.2, fun ys => hY⟩
  · simp [qVar_, qC, q2, q1, qTest_, qChain_, qAnd, qOr, qNot, qAndV_, qOrV_, qNotV_, qIf, qNil, qCons, qTup, qLst, qCB, qNext, qSeq, qRet, qRetN, qRetO_, qIfS, qAsg, qAsgO_, qPar, qParO_, qPar3, qPar3O_, qFrz_, qApN_, qStN_, qIxO_, qLend, qLendT, qNoPart, qPart_, qSl, qRevL_, qIsi_, qSplit_, qJoin_, qBits_, qIL_, qIT, qR1_, qR2_, qIS_, qIE_, qgN, qgNil, qgCons_, qgT_, qFor, qLc, qYes, qCall, qCallO_, kAdd, kI0_, kI_, kMul, kB0_, kEq, kNe, kIsN, kNotN, kIn, kNin, kLen_l, kLen_t, kLen_s, kAbs_, kMax2_, kInt_i, kInt_s, kStr_, kSum, kAll_, kAny_, kNeg_, dat_dt, dat_ow, dat_pw, toDt_dt, toDt_ow, toDt_pw, toDt_un, okSlot_dt, okSlot_ow, okSlot_un, okP_dt, okP_un, ownOf_ow, ownOf_pw, isN_n, isN_b, isN_i, isN_s, isN_l, isN_t, flatD_n, flatD_b, flatD_i, flatD_s, setOwn, ixq_l_, ixq_t_, ixq_s_, slq_l, slq_s, eqq_ii, eqq_ss, eqq_ll, eqq_tt, inn_l, inn_s, wipeR, freeV, mTup_t, mBool_b, mBoolS_b, mInt_i, mStr_s, mLst_l, mOpt_s, mOw_o, mOwn_o, mI1_i, mI2_i, mL1_l]
    have l1 : (" " : Str).length = 1 := by decide
    have s1 : ((r.map fw).map (·.length)).sum ≤ (r.map fw).length * 63 := sum_le fun l hl => by
      obtain ⟨f, hf, rfl⟩ := List.mem_map.mp hl
      exact fw_len (sm10 (hr f hf).1) (sm10 (hr f hf).2.2)
    have j1 := join_len (" " : Str) (r.map fw)
    rw [List.length_map] at s1 j1
    rw [l1] at j1
    refine ⟨r.map fw, by rw [List.map_map]; rfl, by rw [List.length_map, l1]; omega, ?_⟩
    exact h (Txt.join (" " : Str) (r.map fw)) (by omega) (asc_join (asc_of " ") fun l hl => by
      obtain ⟨f, hf, rfl⟩ := List.mem_map.mp hl
      exact asc_fw f) _
/-! ### a text's first line -/
theorem join0_cons (x : Str) (r : List Str) : Txt.join ("" : Str) (x :: r) = x ++ Txt.join ("" : Str) r := by
  refine TL.ext_tl ?_
  show codes _ = codes _
  rw [codes_app, codes_join, codes_join]
  cases r with
  | nil =>
    show codes x = codes x ++ []
    rw [List.append_nil]
  | cons y r => rfl
def IwT (d : SD) (m : Nat) (rows : List (List Fr)) (i : Nat) (acc : List PyData) (ρ : List SD) : Prop := ∃ zs : List Str, acc = zs.map .str ∧ zs.length = i ∧ (∀ z ∈ zs, z.length ≤ 300 ∧ asc z) ∧ ρ = [d, .un, .un, .un]
theorem three {m : Nat} (h1 : 1 ≤ m) (h3 : m ≤ 3) : num m = "1" ∨ num m = "2" ∨ num m = "3" := by
  have : m = 1 ∨ m = 2 ∨ m = 3 := by omega
  rcases this with e | e | e <;> subst e
  · exact .inl (by decide +kernel)
  · exact .inr (.inl (by decide +kernel))
  · exact .inr (.inr (by decide +kernel))
theorem p__law_text (as R) (h : d__law_text as R) : as.length = 1 ∧ q__law_text { nx := fun ρ => R (.dt .none) (pwOf ρ), rt := fun r ρ => R r (pwOf ρ) } (as ++ List.replicate (N__law_text.length - 1) .un) := by
  obtain ⟨m, rows, rfl, ⟨h1, h3, n1, n5, hrs⟩, h⟩ := h
  refine ⟨rfl, ?_⟩
  unfold q__law_text
  have p1 : atI [PyData.str "planes", PyData.int m, rowsD rows] 1 = some (.int m) := rfl
  have p2 : atI [PyData.str "planes", PyData.int m, rowsD rows] 2 = some (rowsD rows) := rfl
  have lm := num_len (i := m) (by omega)
  have ld : ("dimensions " : Str).length = 11 := by decide
  have z50 : 100 ≤ sizeLine := by decide
  have le : ("" : Str).length = 0 := by decide
  have ln : ("\n" : Str).length = 1 := by decide
  refine seq_i (fun ρ' => ∃ zs : List Str, zs.length ≤ 5 ∧ (∀ z ∈ zs, z.length ≤ 300 ∧ asc z) ∧ ρ' = [.dt (plD m rows), .dt (.list (.str (("dimensions " : Str) ++ num m) :: zs.map .str)), .un, .un]) (fun K hK => ?_) ?_
  · unfold plD
    simp [qVar_, qC, q2, q1, qTest_, qChain_, qAnd, qOr, qNot, qAndV_, qOrV_, qNotV_, qIf, qNil, qCons, qTup, qLst, qCB, qNext, qSeq, qRet, qRetN, qRetO_, qIfS, qAsg, qAsgO_, qPar, qParO_, qPar3, qPar3O_, qFrz_, qApN_, qStN_, qIxO_, qLend, qLendT, qNoPart, qPart_, qSl, qRevL_, qIsi_, qSplit_, qJoin_, qBits_, qIL_, qIT, qR1_, qR2_, qIS_, qIE_, qgN, qgNil, qgCons_, qgT_, qFor, qLc, qYes, qCall, qCallO_, kAdd, kI0_, kI_, kMul, kB0_, kEq, kNe, kIsN, kNotN, kIn, kNin, kLen_l, kLen_t, kLen_s, kAbs_, kMax2_, kInt_i, kInt_s, kStr_, kSum, kAll_, kAny_, kNeg_, dat_dt, dat_ow, dat_pw, toDt_dt, toDt_ow, toDt_pw, toDt_un, okSlot_dt, okSlot_ow, okSlot_un, okP_dt, okP_un, ownOf_ow, ownOf_pw, isN_n, isN_b, isN_i, isN_s, isN_l, isN_t, flatD_n, flatD_b, flatD_i, flatD_s, setOwn, ixq_l_, ixq_t_, ixq_s_, slq_l, slq_s, eqq_ii, eqq_ss, eqq_ll, eqq_tt, inn_l, inn_s, wipeR, freeV, mTup_t, mBool_b, mBoolS_b, mInt_i, mStr_s, mLst_l, mOpt_s, mOw_o, mOwn_o, mI1_i, mI2_i, mL1_l, p1, p2, mLst_rows]
    have e : Str.ofString ((m : Int)).repr = num m := rfl
    refine ⟨num_log (i := (m : Int)) (by omega), ?_, by omega, ?_⟩
    · rw [e]; omega
    refine ⟨rfl, by simp; omega, IwT (.dt (plD m rows)) m rows, ⟨[], rfl, rfl, by simp, rfl⟩, ?_, ?_⟩
    · rintro i acc _ d hd ⟨zs, rfl, rfl, hzs, rfl⟩
      obtain ⟨r, hr, rfl⟩ := List.mem_map.mp (List.mem_of_getElem? hd)
      obtain ⟨q1, q2⟩ := hrs r hr
      simp [qVar_, qC, q2, q1, qTest_, qChain_, qAnd, qOr, qNot, qAndV_, qOrV_, qNotV_, qIf, qNil, qCons, qTup, qLst, qCB, qNext, qSeq, qRet, qRetN, qRetO_, qIfS, qAsg, qAsgO_, qPar, qParO_, qPar3, qPar3O_, qFrz_, qApN_, qStN_, qIxO_, qLend, qLendT, qNoPart, qPart_, qSl, qRevL_, qIsi_, qSplit_, qJoin_, qBits_, qIL_, qIT, qR1_, qR2_, qIS_, qIE_, qgN, qgNil, qgCons_, qgT_, qFor, qLc, qYes, qCall, qCallO_, kAdd, kI0_, kI_, kMul, kB0_, kEq, kNe, kIsN, kNotN, kIn, kNin, kLen_l, kLen_t, kLen_s, kAbs_, kMax2_, kInt_i, kInt_s, kStr_, kSum, kAll_, kAny_, kNeg_, dat_dt, dat_ow, dat_pw, toDt_dt, toDt_ow, toDt_pw, toDt_un, okSlot_dt, okSlot_ow, okSlot_un, okP_dt, okP_un, ownOf_ow, ownOf_pw, isN_n, isN_b, isN_i, isN_s, isN_l, isN_t, flatD_n, flatD_b, flatD_i, flatD_s, setOwn, ixq_l_, ixq_t_, ixq_s_, slq_l, slq_s, eqq_ii, eqq_ss, eqq_ll, eqq_tt, inn_l, inn_s, wipeR, freeV, mTup_t, mBool_b, mBoolS_b, mInt_i, mStr_s, mLst_l, mOpt_s, mOw_o, mOwn_o, mI1_i, mI2_i, mL1_l]
      refine ⟨r, rfl, by omega, fun f hf => ?_, fun z hz ha ys => ?_⟩
      · obtain ⟨a1, a2, a3⟩ := q2 f hf
        exact ⟨by omega, a2, by omega⟩
      · refine ⟨zs ++ [z], by rw [List.map_append]; rfl, by simp, fun x hx => ?_, rfl⟩
        rcases List.mem_append.mp hx with hx | hx
        · exact hzs x hx
        · rw [List.mem_singleton.mp hx]; exact ⟨hz, ha⟩
    · rintro acc _ ⟨zs, rfl, hl, hzs, rfl⟩
      rw [List.length_map] at hl
      simp [qVar_, qC, q2, q1, qTest_, qChain_, qAnd, qOr, qNot, qAndV_, qOrV_, qNotV_, qIf, qNil, qCons, qTup, qLst, qCB, qNext, qSeq, qRet, qRetN, qRetO_, qIfS, qAsg, qAsgO_, qPar, qParO_, qPar3, qPar3O_, qFrz_, qApN_, qStN_, qIxO_, qLend, qLendT, qNoPart, qPart_, qSl, qRevL_, qIsi_, qSplit_, qJoin_, qBits_, qIL_, qIT, qR1_, qR2_, qIS_, qIE_, qgN, qgNil, qgCons_, qgT_, qFor, qLc, qYes, qCall, qCallO_, kAdd, kI0_, kI_, kMul, kB0_, kEq, kNe, kIsN, kNotN, kIn, kNin, kLen_l, kLen_t, kLen_s, kAbs_, kMax2_, kInt_i, kInt_s, kStr_, kSum, kAll_, kAny_, kNeg_, dat_dt, dat_ow, dat_pw, toDt_dt, toDt_ow, toDt_pw, toDt_un, okSlot_dt, okSlot_ow, okSlot_un, okP_dt, okP_un, ownOf_ow, ownOf_pw, isN_n, isN_b, isN_i, isN_s, isN_l, isN_t, flatD_n, flatD_b, flatD_i, flatD_s, setOwn, ixq_l_, ixq_t_, ixq_s_, slq_l, slq_s, eqq_ii, eqq_ss, eqq_ll, eqq_tt, inn_l, inn_s, wipeR, freeV, mTup_t, mBool_b, mBoolS_b, mInt_i, mStr_s, mLst_l, mOpt_s, mOw_o, mOwn_o, mI1_i, mI2_i, mL1_l, unwipe]
      refine ⟨by omega, hK _ ⟨zs, by omega, hzs, ?_⟩⟩
      rw [e]
  rintro _ ⟨zs, hl, hzs, rfl⟩
  simp [qVar_, qC, q2, q1, qTest_, qChain_, qAnd, qOr, qNot, qAndV_, qOrV_, qNotV_, qIf, qNil, qCons, qTup, qLst, qCB, qNext, qSeq, qRet, qRetN, qRetO_, qIfS, qAsg, qAsgO_, qPar, qParO_, qPar3, qPar3O_, qFrz_, qApN_, qStN_, qIxO_, qLend, qLendT, qNoPart, qPart_, qSl, qRevL_, qIsi_, qSplit_, qJoin_, qBits_, qIL_, qIT, qR1_, qR2_, qIS_, qIE_, qgN, qgNil, qgCons_, qgT_, qFor, qLc, qYes, qCall, qCallO_, kAdd, kI0_, kI_, kMul, kB0_, kEq, kNe, kIsN, kNotN, kIn, kNin, kLen_l, kLen_t, kLen_s, kAbs_, kMax2_, kInt_i, kInt_s, kStr_, kSum, kAll_, kAny_, kNeg_, dat_dt, dat_ow, dat_pw, toDt_dt, toDt_ow, toDt_pw, toDt_un, okSlot_dt, okSlot_ow, okSlot_un, okP_dt, okP_un, ownOf_ow, ownOf_pw, isN_n, isN_b, isN_i, isN_s, isN_l, isN_t, flatD_n, flatD_b, flatD_i, flatD_s, setOwn, ixq_l_, ixq_t_, ixq_s_, slq_l, slq_s, eqq_ii, eqq_ss, eqq_ll, eqq_tt, inn_l, inn_s, wipeR, freeV, mTup_t, mBool_b, mBoolS_b, mInt_i, mStr_s, mLst_l, mOpt_s, mOw_o, mOwn_o, mI1_i, mI2_i, mL1_l]
  have es : (PyData.str (("dimensions " : Str) ++ num m) :: zs.map PyData.str) = ((("dimensions " : Str) ++ num m) :: zs).map PyData.str := rfl
  rw [es]
  refine lc_map rfl (by simp; omega) rfl (fun d => match d with | .str x => .str (x ++ ("\n" : Str)) | _ => .none) ?_ ?_
  · intro d hd Y hY
    obtain ⟨x, hx, rfl⟩ := List.mem_map.mp hd
    have hxl : x.length ≤ 300 := by
      rcases List.mem_cons.mp hx with e | hx
      · rw [e, str_app_len]; omega
      · exact (hzs x hx).1
    have zz : 400 ≤ sizeLine := by decide
    simp [qVar_, qC, q2, q1, qTest_, qChain_, qAnd, qOr, qNot, qAndV_, qOrV_, qNotV_, qIf, qNil, qCons, qTup, qLst, qCB, qNext, qSeq, qRet, qRetN, qRetO_, qIfS, qAsg, qAsgO_, qPar, qParO_, qPar3, qPar3O_, qFrz_, qApN_, qStN_, qIxO_, qLend, qLendT, qNoPart, qPart_, qSl, qRevL_, qIsi_, qSplit_, qJoin_, qBits_, qIL_, qIT, qR1_, qR2_, qIS_, qIE_, qgN, qgNil, qgCons_, qgT_, qFor, qLc, qYes, qCall, qCallO_, kAdd, kI0_, kI_, kMul, kB0_, kEq, kNe, kIsN, kNotN, kIn, kNin, kLen_l, kLen_t, kLen_s, kAbs_, kMax2_, kInt_i, kInt_s, kStr_, kSum, kAll_, kAny_, kNeg_, dat_dt, dat_ow, dat_pw, toDt_dt, toDt_ow, toDt_pw, toDt_un, okSlot_dt, okSlot_ow, okSlot_un, okP_dt, okP_un, ownOf_ow, ownOf_pw, isN_n, isN_b, isN_i, isN_s, isN_l, isN_t, flatD_n, flatD_b, flatD_i, flatD_s, setOwn, ixq_l_, ixq_t_, ixq_s_, slq_l, slq_s, eqq_ii, eqq_ss, eqq_ll, eqq_tt, inn_l, inn_s, wipeR, freeV, mTup_t, mBool_b, mBoolS_b, mInt_i, mStr_s, mLst_l, mOpt_s, mOw_o, mOwn_o, mI1_i, mI2_i, mL1_l]
    refine ⟨by omega, ?_⟩
    exact hY
  · have em : ((((("dimensions " : Str) ++ num m) :: zs).map PyData.str).map (fun d => match d with | .str x => PyData.str (x ++ ("\n" : Str)) | _ => .none)) = (((("dimensions " : Str) ++ num m) :: zs).map (· ++ ("\n" : Str))).map PyData.str := by
      rw [List.map_map, List.map_map]; rfl
    rw [em]
    simp only [dat_ow]
    have hs : (((((("dimensions " : Str) ++ num m) :: zs).map (· ++ ("\n" : Str)))).map (·.length)).sum ≤ (((("dimensions " : Str) ++ num m) :: zs).map (· ++ ("\n" : Str))).length * 301 := sum_le fun l hl => by
      obtain ⟨x, hx, rfl⟩ := List.mem_map.mp hl
      rw [str_app_len]
      rcases List.mem_cons.mp hx with e | hx
      · rw [e, str_app_len]; omega
      · have := (hzs x hx).1
        omega
    have hj := join_len ("" : Str) (((("dimensions " : Str) ++ num m) :: zs).map (· ++ ("\n" : Str)))
    rw [List.length_map, List.length_cons] at hs hj
    rw [le] at hj
    refine ⟨_, rfl, by rw [le]; omega, ?_⟩
    have ej : Txt.join ("" : Str) (((("dimensions " : Str) ++ num m) :: zs).map (· ++ ("\n" : Str))) = ((("dimensions " : Str) ++ num m) ++ ("\n" : Str)) ++ Txt.join ("" : Str) (zs.map (· ++ ("\n" : Str))) := join0_cons _ _
    refine h _ _ _ ej (by omega) (asc_join (asc_of "") fun l hl => ?_) _
    obtain ⟨x, hx, rfl⟩ := List.mem_map.mp hl
    refine asc.app ?_ (asc_of "\n")
    rcases List.mem_cons.mp hx with e | hx
    · rw [e]; exact (asc_of "dimensions ").app (asc_num _)
    · exact (hzs x hx).2
end K90
set_option Elab.async false
set_option linter.all false
set_option maxRecDepth 100000
set_option autoImplicit false
namespace K90
open PySem PySem.Spec PyProof.Rows L2 DL
/-! ### lines -/
def wt (ls : List Str) : Nat := (ls.map fun x => x.length + 1).sum
def LL (B : Nat) (ds : List PyData) : Prop := ∃ ls : List Str, ds = ls.map .str ∧ wt ls ≤ B ∧ ∀ l ∈ ls, asc l
def TB (B : Nat) (z : Str) : Prop := z.length ≤ B ∧ asc z
theorem TB.app {A B : Nat} {a b : Str} (h1 : TB A a) (h2 : TB B b) : TB (A + B) (a ++ b) := ⟨by rw [str_app_len]; have := h1.1; have := h2.1; omega, h1.2.app h2.2⟩
theorem TB.cut {B : Nat} {x : Str} {lo hi : Option Int} (h : TB B x) : TB B (cutS x lo hi) := ⟨Nat.le_trans cutS_facts.2 h.1, h.2.cut⟩
theorem TB.up {A B : Nat} {x : Str} (h : TB A x) (k : A ≤ B) : TB B x := ⟨Nat.le_trans h.1 k, h.2⟩
theorem TB.ok {B : Nat} {x : Str} (h : TB B x) (k : B ≤ 100000 := by decide) : TxOk x := ⟨Nat.le_trans h.1 k, h.2⟩
theorem wt_app (a b : List Str) : wt (a ++ b) = wt a + wt b := by unfold wt; rw [List.map_append, List.sum_append]
theorem wt_take (a : List Str) (n : Nat) : wt (a.take n) ≤ wt a := by
  have := wt_app (a.take n) (a.drop n)
  rw [List.take_append_drop] at this
  omega
theorem wt_drop (a : List Str) (n : Nat) : wt (a.drop n) ≤ wt a := by
  have := wt_app (a.take n) (a.drop n)
  rw [List.take_append_drop] at this
  omega
theorem wt_len (a : List Str) : a.length ≤ wt a := by
  induction a with
  | nil => simp
  | cons x r ih =>
    have : wt (x :: r) = x.length + 1 + wt r := by unfold wt; rw [List.map_cons, List.sum_cons]
    rw [List.length_cons]; omega
theorem wt_mem {a : List Str} {x : Str} (h : x ∈ a) : x.length + 1 ≤ wt a := by
  induction a with
  | nil => cases h
  | cons y r ih =>
    have : wt (y :: r) = y.length + 1 + wt r := by unfold wt; rw [List.map_cons, List.sum_cons]
    rcases List.mem_cons.mp h with e | h
    · rw [e]; omega
    · have := ih h; omega
theorem LL.app {A B : Nat} {a b : List PyData} (h1 : LL A a) (h2 : LL B b) : LL (A + B) (a ++ b) := by
  obtain ⟨x, rfl, w1, a1⟩ := h1
  obtain ⟨y, rfl, w2, a2⟩ := h2
  refine ⟨x ++ y, by rw [List.map_append], by rw [wt_app]; omega, fun l hl => ?_⟩
  rcases List.mem_append.mp hl with z | z
  · exact a1 l z
  · exact a2 l z
theorem LL.cut {B : Nat} {a : List PyData} {lo hi : Option Int} (h : LL B a) : LL B (DL.cutD a lo hi) := by
  obtain ⟨x, rfl, w1, a1⟩ := h
  unfold DL.cutD
  rw [← List.map_drop, ← List.map_take]
  exact ⟨_, rfl, Nat.le_trans (wt_take _ _) (Nat.le_trans (wt_drop _ _) w1), fun l hl => a1 l (List.mem_of_mem_drop (List.mem_of_mem_take hl))⟩
theorem LL.rev {B : Nat} {a : List PyData} (h : LL B a) : LL B a.reverse := by
  obtain ⟨x, rfl, w1, a1⟩ := h
  rw [← List.map_reverse]
  refine ⟨_, rfl, ?_, fun l hl => a1 l (List.mem_reverse.mp hl)⟩
  unfold wt at *
  rw [List.map_reverse, List.sum_reverse]
  exact w1
theorem LL.one {B : Nat} {z : Str} (h : TB B z) : LL (B + 1) [.str z] := ⟨[z], rfl, by simp [wt]; exact h.1, fun l hl => by rw [List.mem_singleton.mp hl]; exact h.2⟩
theorem LL.up {A B : Nat} {x : List PyData} (h : LL A x) (k : A ≤ B) : LL B x := by
  obtain ⟨x, rfl, w1, a1⟩ := h
  exact ⟨x, rfl, Nat.le_trans w1 k, a1⟩
theorem LL.len {A : Nat} {x : List PyData} (h : LL A x) : x.length ≤ A := by
  obtain ⟨x, rfl, w1, a1⟩ := h
  rw [List.length_map]
  exact Nat.le_trans (wt_len x) w1
theorem LL.get {A : Nat} {x : List PyData} {i : Int} (h : LL A x) (h0 : 0 ≤ i) (h1 : i < x.length) : ∃ z : Str, atI x i = some (.str z) ∧ TB A z := by
  obtain ⟨x, rfl, w1, a1⟩ := h
  obtain ⟨k, rfl⟩ := Int.eq_ofNat_of_zero_le h0
  rw [List.length_map] at h1
  have hk : k < x.length := by omega
  have e : ixN (x.map PyData.str).length (k : Int) = some k := by unfold ixN; simp; omega
  refine ⟨x[k], ?_, ?_, a1 _ (List.getElem_mem hk)⟩
  · unfold atI
    rw [e]
    show (x.map PyData.str)[k]? = _
    rw [List.getElem?_map, List.getElem?_eq_getElem hk]
    rfl
  · have := wt_mem (List.getElem_mem hk)
    omega
/-! ### split -/
theorem spl_wt (S : List Nat) (hS : S ≠ []) : ∀ (l : List Nat) (k : Nat) (acc : List Nat), ((TL.spl S k acc l).map fun p => p.length + 1).sum ≤ acc.length + l.length + 1
  | [], k, acc => by rw [TL.spl_nil]; simp
  | c :: r, 0, acc => by
    by_cases h : TL.pre S (c :: r) = true
    · rw [TL.spl_hit h]
      have := spl_wt S hS r (S.length - 1) []
      rw [List.map_cons, List.sum_cons, List.length_cons]
      simp at this
      omega
    · rw [TL.spl_miss (by simpa using h)]
      have := spl_wt S hS r 0 (acc ++ [c])
      simp at this ⊢
      omega
  | c :: r, k + 1, acc => by
    show ((TL.spl S k acc r).map fun p => p.length + 1).sum ≤ _
    have := spl_wt S hS r k acc
    simp at this ⊢
    omega
theorem spl_two {c : Nat} : ∀ (l acc : List Nat), c ∈ l → 2 ≤ (TL.spl [c] 0 acc l).length
  | [], _, h => by cases h
  | d :: r, acc, h => by
    by_cases hp : TL.pre [c] (d :: r) = true
    · rw [TL.spl_hit hp, List.length_cons]
      have := (spl_facts [c] r ([c].length - 1) []).2.2
      have := List.length_pos_iff.mpr this
      omega
    · rw [TL.spl_miss (by simpa using hp)]
      have hd : c ≠ d := fun e => hp (by rw [e]; simp [TL.pre])
      exact spl_two r _ ((List.mem_cons.mp h).resolve_left hd)
theorem lines_ll {u w z : Str} (e : z = u ++ ("\n" : Str) ++ w) (hz : z.length ≤ 2000) (ha : asc z) : LL 2001 ((linesOf z).map .str) ∧ 2 ≤ (linesOf z).length := by
  have ec : codes ("\n" : Str) = [10] := by decide +kernel
  have hk : ("\n" : Str).cps.all (· < 256) = true := by decide +kernel
  have es := TL.split_spl z ("\n" : Str) (by rw [← codes_tl, ec]; simp) (TL.kind_ok hk)
  rw [← codes_tl, ec, ← codes_tl] at es
  obtain ⟨f1, f2, f3⟩ := split_facts (x := z) (y := ("\n" : Str)) (by rw [ec]; simp) hk
  refine ⟨⟨linesOf z, rfl, ?_, fun l hl => fun c hc => ha c ((f1 l hl).1 c hc)⟩, ?_⟩
  · have := spl_wt [10] (by simp) (codes z) 0 []
    rw [← es, List.map_map, lenS] at this
    have e2 : ((Txt.split z "\n").map ((fun p : List Nat => p.length + 1) ∘ TL.tl)) = (Txt.split z "\n").map fun x => x.length + 1 := List.map_congr_left fun x _ => by
      show (codes x).length + 1 = _
      rw [lenS]
    rw [e2] at this
    unfold wt linesOf
    simp at this
    omega
  · have := spl_two (c := 10) (codes z) [] (by rw [e, codes_app, codes_app, ec]; simp)
    rw [← es, List.length_map] at this
    exact this
/-! ### expressions that change nothing, step by step -/
def Ex (q : QE) (ρ : List SD) (P : PyData → Prop) : Prop := ∀ K : SD → List SD → Prop, (∀ s : SD, P s.dat → K s ρ) → q ρ K
def Exs (q : QA) (ρ : List SD) (P : List PyData → Prop) : Prop := ∀ K : List PyData → List SD → Prop, (∀ ds, P ds → K ds ρ) → q ρ K
def Eo (q : QO) (ρ : List SD) : Prop := ∀ K : Option Int → List SD → Prop, (∀ o, K o ρ) → q ρ K
def isT (A : Nat) (d : PyData) : Prop := ∃ z, d = .str z ∧ TB A z
def isL (A : Nat) (d : PyData) : Prop := ∃ ds, d = .list ds ∧ LL A ds
def isI (d : PyData) : Prop := ∃ i, d = .int i
section
variable {ρ : List SD} {i A B : Nat} {d : PyData} {P P' : PyData → Prop} {R : List PyData → Prop} {qa qb qe : QE} {ql qh : QO} {q : QA}
theorem Ex.var (h : ρ[i]? = some (.dt d)) (p : P d) : Ex (qVar i) ρ P := fun K k => ⟨d, h, k (.dt d) p⟩
theorem Ex.c (p : P d) : Ex (qC d) ρ P := fun K k => k (.dt d) p
theorem Ex.up (h : Ex qa ρ P) (u : ∀ d, P d → P' d) : Ex qa ρ P' := fun K k => h K fun s p => k s (u _ p)
theorem Ex.addT (h1 : Ex qa ρ (isT A)) (h2 : Ex qb ρ (isT B)) (hz : A + B ≤ 1000000) : Ex (q2 kAdd qa qb) ρ (isT (A + B)) := fun K k => h1 _ fun s ⟨x, e1, t1⟩ => h2 _ fun s' ⟨y, e2, t2⟩ => by
  have z8 : 1000000 ≤ sizeLine := by decide
  show kAdd s.dat s'.dat _
  rw [e1, e2]
  have q1 := t1.1
  have q2 := t2.1
  exact ⟨by omega, k (.dt (.str (x ++ y))) ⟨_, rfl, t1.app t2⟩⟩
theorem Ex.addL (h1 : Ex qa ρ (isL A)) (h2 : Ex qb ρ (isL B)) (hz : A + B ≤ 1000000) : Ex (q2 kAdd qa qb) ρ (isL (A + B)) := fun K k => h1 _ fun s ⟨x, e1, t1⟩ => h2 _ fun s' ⟨y, e2, t2⟩ => by
  have z8 : 1000000 ≤ sizeLine := by decide
  show kAdd s.dat s'.dat _
  rw [e1, e2]
  have q1 := t1.len
  have q2 := t2.len
  exact ⟨by omega, k (.ow (x ++ y)) ⟨_, rfl, t1.app t2⟩⟩
theorem Ex.addI (h1 : Ex qa ρ isI) (h2 : Ex qb ρ isI) : Ex (q2 kAdd qa qb) ρ isI := fun K k => h1 _ fun s ⟨x, e1⟩ => h2 _ fun s' ⟨y, e2⟩ => by
  show kAdd s.dat s'.dat _
  rw [e1, e2]
  exact k (.dt (.int (x + y))) ⟨_, rfl⟩
theorem Ex.negI (h1 : Ex qa ρ isI) : Ex (q1 kNeg qa) ρ isI := fun K k => h1 _ fun s ⟨x, e1⟩ => by
  show kNeg s.dat _
  rw [e1]
  exact ⟨x, rfl, k (.dt (.int (-x))) ⟨_, rfl⟩⟩
theorem Eo.none : Eo qNoPart ρ := fun K k => k _
theorem Eo.part (h : Ex qe ρ isI) : Eo (qPart qe) ρ := fun K k => h _ fun s ⟨x, e1⟩ => ⟨x, e1, k _⟩
theorem Ex.slT (h : Ex qe ρ (isT A)) (hl : Eo ql ρ) (hh : Eo qh ρ) (hz : A ≤ 1000000) : Ex (qSl qe ql qh) ρ (isT A) := fun K k => h _ fun s ⟨x, e1, t1⟩ => hl _ fun l => hh _ fun u => by
  have z8 : 1000000 ≤ sizeLine := by decide
  show slq s.dat l u _
  rw [e1, slq_s]
  have q1 := t1.1
  exact ⟨by omega, k (.dt (.str (cutS x l u))) ⟨_, rfl, t1.cut⟩⟩
theorem Ex.slL (h : Ex qe ρ (isL A)) (hl : Eo ql ρ) (hh : Eo qh ρ) : Ex (qSl qe ql qh) ρ (isL A) := fun K k => h _ fun s ⟨x, e1, t1⟩ => hl _ fun l => hh _ fun u => by
  show slq s.dat l u _
  rw [e1, slq_l]
  exact k (.ow (DL.cutD x l u)) ⟨_, rfl, t1.cut⟩
theorem Ex.revL (h : Ex qe ρ (isL A)) : Ex (qRevL qe) ρ (isL A) := fun K k => h _ fun s ⟨x, e1, t1⟩ => ⟨x, e1, k (.ow x.reverse) ⟨_, rfl, t1.rev⟩⟩
theorem Exs.nil (p : R []) : Exs qNil ρ R := fun K k => k _ p
theorem Exs.cons (h : Ex qe ρ P) (h' : ∀ d, P d → Exs q ρ fun ds => R (d :: ds)) : Exs (qCons qe q) ρ R := fun K k => h _ fun s p => h' s.dat p _ fun ds r => k _ r
theorem Ex.lst (h : Exs q ρ fun ds => ds.length ≤ 1000 ∧ P (.list ds)) : Ex (qLst q) ρ P := fun K k => h _ fun ds ⟨z, p⟩ => by
  have z8 : 1000000 ≤ sizeLine := by decide
  exact ⟨by omega, k (.ow ds) p⟩
theorem Ex.lstO {Q : PyData → Prop} (h : Exs q ρ fun ds => ds.length ≤ 1000 ∧ Q (.list ds)) {D : DEnds} (i : Nat) (ok : okSlot ρ[i]? = true) (k : ∀ xs, Q (.list xs) → D.nx (ρ.set i (.ow xs))) : qAsgO (qLst q) i D ρ := h _ fun ds ⟨z, p⟩ => by
  have z8 : 1000000 ≤ sizeLine := by decide
  exact ⟨by omega, ds, rfl, ok, k ds p⟩
theorem Ex.asg (h : Ex qa ρ P) {D : DEnds} (i : Nat) (ok : okSlot ρ[i]? = true) (k : ∀ d, P d → D.nx (ρ.set i (.dt d))) : qAsg qa i D ρ := h _ fun s p => ⟨ok, k s.dat p⟩
theorem Ex.mulS {x : Str} {n : Int} (h1 : Ex qa ρ fun d => d = .str x) (h2 : Ex qb ρ fun d => d = .int n) (hm : MulOk x n) (t : TB A (Txt.mul x n)) : Ex (q2 kMul qa qb) ρ (isT A) := fun K k => h1 _ fun s e1 => h2 _ fun s' e2 => by
  show kMul s.dat s'.dat _
  rw [e1, e2]
  exact ⟨hm, k (.dt (.str (Txt.mul x n))) ⟨_, rfl, t⟩⟩
theorem Ex.ixT {b : Int} {ds : List PyData} {z : PyData} (h : Ex qa ρ fun d => d = .tuple ds) (h2 : Ex qb ρ fun d => d = .int b) (e : atI ds b = some z) (p : P z) : Ex (q2 ixq qa qb) ρ P := fun K k => h _ fun s e1 => h2 _ fun s' e2 => by
  show ixq s.dat s'.dat _
  rw [e1, e2, ixq_t]
  exact ⟨_, e, k (.dt z) p⟩
theorem Ex.addLs {C : PyData → Prop} {M N : Nat} (h1 : Ex qa ρ fun d => ∃ xs, d = .list xs ∧ xs.length ≤ M ∧ ∀ x ∈ xs, C x) (h2 : Ex qb ρ fun d => ∃ xs, d = .list xs ∧ xs.length ≤ N ∧ ∀ x ∈ xs, C x) (hz : M + N ≤ 1000000) :
    Ex (q2 kAdd qa qb) ρ fun d => ∃ xs, d = .list xs ∧ xs.length ≤ M + N ∧ ∀ x ∈ xs, C x := fun K k => h1 _ fun s ⟨x, e1, l1, c1⟩ => h2 _ fun s' ⟨y, e2, l2, c2⟩ => by
  have z8 : 1000000 ≤ sizeLine := by decide
  show kAdd s.dat s'.dat _
  rw [e1, e2]
  exact ⟨by omega, k (.ow (x ++ y)) ⟨_, rfl, by rw [List.length_append]; omega, fun z hz => (List.mem_append.mp hz).elim (c1 z) (c2 z)⟩⟩
theorem Ex.four {C : PyData → Prop} {q1 q2' q3 q4 : QE} (h1 : Ex q1 ρ C) (h2 : Ex q2' ρ C) (h3 : Ex q3 ρ C) (h4 : Ex q4 ρ C) : Ex (qLst (qCons q1 (qCons q2' (qCons q3 (qCons q4 qNil))))) ρ fun d => ∃ xs, d = .list xs ∧ xs.length ≤ 4 ∧ ∀ x ∈ xs, C x :=
  Ex.lst (Exs.cons h1 fun a pa => Exs.cons h2 fun b pb => Exs.cons h3 fun c pc => Exs.cons h4 fun d pd => Exs.nil ⟨by simp, _, rfl, by simp, fun x hx => by
    simp only [List.mem_cons, List.not_mem_nil, or_false] at hx
    rcases hx with e | e | e | e <;> subst e <;> assumption⟩)
theorem Ex.oneL (h : Ex qe ρ (isT A)) : Ex (qLst (qCons qe qNil)) ρ (isL (A + 1)) := Ex.lst (Exs.cons h fun d ⟨z, e, t⟩ => Exs.nil ⟨by simp, [d], rfl, e ▸ LL.one t⟩)
theorem Ex.ixL {b : Int} {ds : List PyData} (h : Ex qa ρ fun d => d = .list ds) (h2 : Ex qb ρ fun d => d = .int b) (hl : LL A ds) (b0 : 0 ≤ b) (b1 : b < ds.length) : Ex (q2 ixq qa qb) ρ (isT A) := fun K k => h _ fun s e1 => h2 _ fun s' e2 => by
  show ixq s.dat s'.dat _
  rw [e1, e2, ixq_l]
  obtain ⟨z, e, t⟩ := hl.get b0 b1
  exact ⟨_, e, k (.dt (.str z)) ⟨z, rfl, t⟩⟩
end
theorem low_le {a b : Int} (h0 : 0 < b) : (low a b).1.natAbs ≤ a.natAbs ∧ 0 < (low a b).2 ∧ (low a b).2 ≤ b := by
  have hg := gcd_pos' (a := a) h0
  have hgi : (0 : Int) < (Int.gcd a b : Nat) := by omega
  obtain ⟨k, hk⟩ := Int.gcd_dvd_right a b
  obtain ⟨j, hj⟩ := Int.gcd_dvd_left a b
  have e2 : b / (Int.gcd a b : Nat) = k := by
    conv => lhs; lhs; rw [hk]
    exact Int.mul_ediv_cancel_left _ (by omega)
  have e1 : a / (Int.gcd a b : Nat) = j := by
    conv => lhs; lhs; rw [hj]
    exact Int.mul_ediv_cancel_left _ (by omega)
  have k0 : 0 < k := by
    have h0' := h0
    rw [hk] at h0'
    exact Int.pos_of_mul_pos_right h0' hgi
  refine ⟨?_, ?_, ?_⟩
  · show (a / (Int.gcd a b : Nat)).natAbs ≤ a.natAbs
    rw [e1]
    conv => rhs; rw [hj, Int.natAbs_mul]
    exact Nat.le_mul_of_pos_left _ (by simpa using hg)
  · show 0 < b / (Int.gcd a b : Nat)
    rw [e2]; exact k0
  · exact Int.ediv_le_self _ (by omega)
theorem ascB {x : Str} (h : (codes x).all (fun c => decide (c < 1114112)) = true) : asc x := fun c hc => of_decide_eq_true (List.all_eq_true.mp h c hc)
theorem mul0 {m : Nat} (h1 : 1 ≤ m) (h3 : m ≤ 3) : MulOk ("0 " : Str) m ∧ TB 10 (Txt.mul ("0 " : Str) m) := by
  have : m = 1 ∨ m = 2 ∨ m = 3 := by omega
  rcases this with e | e | e <;> subst e
  · exact ⟨⟨by decide +kernel, by decide +kernel, by decide +kernel⟩, by decide +kernel, ascB (by decide +kernel)⟩
  · exact ⟨⟨by decide +kernel, by decide +kernel, by decide +kernel⟩, by decide +kernel, ascB (by decide +kernel)⟩
  · exact ⟨⟨by decide +kernel, by decide +kernel, by decide +kernel⟩, by decide +kernel, ascB (by decide +kernel)⟩
theorem mul1 {m : Nat} (h1 : 1 ≤ m) (h3 : m ≤ 3) : MulOk ("1 " : Str) m ∧ TB 10 (Txt.mul ("1 " : Str) m) := by
  have : m = 1 ∨ m = 2 ∨ m = 3 := by omega
  rcases this with e | e | e <;> subst e
  · exact ⟨⟨by decide +kernel, by decide +kernel, by decide +kernel⟩, by decide +kernel, ascB (by decide +kernel)⟩
  · exact ⟨⟨by decide +kernel, by decide +kernel, by decide +kernel⟩, by decide +kernel, ascB (by decide +kernel)⟩
  · exact ⟨⟨by decide +kernel, by decide +kernel, by decide +kernel⟩, by decide +kernel, ascB (by decide +kernel)⟩
def T0 (m : Nat) (rows : List (List Fr)) (g : List PyData) (f : SD) (s3 s4 s5 s6 s7 s8 s9 s10 s11 s12 : SD) : List SD := [.pw g, .dt (plD m rows), f, s3, s4, s5, s6, s7, s8, s9, s10, s11, s12, .un, .un]
/-- found, as far as it goes -/
def IwF (m : Nat) (rows : List (List Fr)) (g : List PyData) (qs : List PyData) (db t : Str) (ls : List PyData) (a b c : Int) (i : Nat) (ρ : List SD) : Prop := ∃ (zs : List Str) (s5 : SD), zs.length = 9 + i ∧ (∀ z ∈ zs, TxOk z) ∧ okP (some s5) = true ∧
  ρ = T0 m rows g (.ow (zs.map .str)) (.dt (.list qs)) (.dt (.str db)) s5 .un (.dt (.str t)) (.dt (.list ls)) (.dt (.int a)) (.dt (.int b)) (.dt (.int c)) .un
def IwG (n m : Nat) (rows : List (List Fr)) (qs : List PyData) (db t : Str) (ls : List PyData) (a b c : Int) (s5 : SD) (N : Nat) (i : Nat) (ρ : List SD) : Prop := ∃ (zs : List Str) (g : List PyData) (s6 s12 : SD), zs.length ≤ 100 + i ∧ (∀ z ∈ zs, TxOk z) ∧ okP (some s6) = true ∧ okP (some s12) = true ∧ Gen (n + 3 + 3 * i) g ∧
  ρ = T0 m rows g (.ow (zs.map .str)) (.dt (.list qs)) (.dt (.str db)) s5 s6 (.dt (.str t)) (.dt (.list ls)) (.dt (.int a)) (.dt (.int b)) (.dt (.int c)) s12
theorem p__law_texts (as R) (h : d__law_texts as R) : as.length = 2 ∧ q__law_texts { nx := fun ρ => R (.dt .none) (pwOf ρ), rt := fun r ρ => R r (pwOf ρ) } (as ++ List.replicate (N__law_texts.length - 2) .un) := by
  obtain ⟨n, m, g, rows, rfl, hn, hg, hP, h⟩ := h
  refine ⟨rfl, ?_⟩
  unfold q__law_texts
  have z8 : 1000000 ≤ sizeLine := by decide
  have ln : ("\n" : Str).length = 1 := by decide
  have cT : ∀ x : String, ∀ A, (Str.ofString x).length ≤ A → isT A (.str (Str.ofString x)) := fun x A h => ⟨_, rfl, h, asc_of x⟩
  refine seq_i (fun ρ' => ∃ (t : Str) (ls : List PyData), TB 2000 t ∧ 0 < t.length ∧ LL 2001 ls ∧ 0 < ls.length ∧ ρ' = T0 m rows g .un .un .un .un .un (.dt (.str t)) (.dt (.list ls)) .un .un .un .un) (fun K hK => ?_) ?_
  · simp [qVar_, qC, q2, q1, qTest_, qChain_, qAnd, qOr, qNot, qAndV_, qOrV_, qNotV_, qIf, qNil, qCons, qTup, qLst, qCB, qNext, qSeq, qRet, qRetN, qRetO_, qIfS, qAsg, qAsgO_, qPar, qParO_, qPar3, qPar3O_, qFrz_, qApN_, qStN_, qIxO_, qLend, qLendT, qNoPart, qPart_, qSl, qRevL_, qIsi_, qSplit_, qJoin_, qBits_, qIL_, qIT, qR1_, qR2_, qIS_, qIE_, qgN, qgNil, qgCons_, qgT_, qFor, qLc, qYes, qCall, qCallO_, kAdd, kI0_, kI_, kMul, kB0_, kEq, kNe, kIsN, kNotN, kIn, kNin, kLen_l, kLen_t, kLen_s, kAbs_, kMax2_, kInt_i, kInt_s, kStr_, kSum, kAll_, kAny_, kNeg_, dat_dt, dat_ow, dat_pw, toDt_dt, toDt_ow, toDt_pw, toDt_un, okSlot_dt, okSlot_ow, okSlot_un, okP_dt, okP_un, ownOf_ow, ownOf_pw, isN_n, isN_b, isN_i, isN_s, isN_l, isN_t, flatD_n, flatD_b, flatD_i, flatD_s, setOwn, ixq_l_, ixq_t_, ixq_s_, slq_l, slq_s, eqq_ii, eqq_ss, eqq_ll, eqq_tt, inn_l, inn_s, wipeR, freeV, mTup_t, mBool_b, mBoolS_b, mInt_i, mStr_s, mLst_l, mOpt_s, mOw_o, mOwn_o, mI1_i, mI2_i, mL1_l]
    refine ⟨m, rows, rfl, hP, fun z u w e hz ha ys => ?_⟩
    simp [qVar_, qC, q2, q1, qTest_, qChain_, qAnd, qOr, qNot, qAndV_, qOrV_, qNotV_, qIf, qNil, qCons, qTup, qLst, qCB, qNext, qSeq, qRet, qRetN, qRetO_, qIfS, qAsg, qAsgO_, qPar, qParO_, qPar3, qPar3O_, qFrz_, qApN_, qStN_, qIxO_, qLend, qLendT, qNoPart, qPart_, qSl, qRevL_, qIsi_, qSplit_, qJoin_, qBits_, qIL_, qIT, qR1_, qR2_, qIS_, qIE_, qgN, qgNil, qgCons_, qgT_, qFor, qLc, qYes, qCall, qCallO_, kAdd, kI0_, kI_, kMul, kB0_, kEq, kNe, kIsN, kNotN, kIn, kNin, kLen_l, kLen_t, kLen_s, kAbs_, kMax2_, kInt_i, kInt_s, kStr_, kSum, kAll_, kAny_, kNeg_, dat_dt, dat_ow, dat_pw, toDt_dt, toDt_ow, toDt_pw, toDt_un, okSlot_dt, okSlot_ow, okSlot_un, okP_dt, okP_un, ownOf_ow, ownOf_pw, isN_n, isN_b, isN_i, isN_s, isN_l, isN_t, flatD_n, flatD_b, flatD_i, flatD_s, setOwn, ixq_l_, ixq_t_, ixq_s_, slq_l, slq_s, eqq_ii, eqq_ss, eqq_ll, eqq_tt, inn_l, inn_s, wipeR, freeV, mTup_t, mBool_b, mBoolS_b, mInt_i, mStr_s, mLst_l, mOpt_s, mOw_o, mOwn_o, mI1_i, mI2_i, mL1_l]
    refine ⟨m, rows, rfl, hP, fun z' u' w' e' hz' ha' ys => ?_⟩
    simp [qVar_, qC, q2, q1, qTest_, qChain_, qAnd, qOr, qNot, qAndV_, qOrV_, qNotV_, qIf, qNil, qCons, qTup, qLst, qCB, qNext, qSeq, qRet, qRetN, qRetO_, qIfS, qAsg, qAsgO_, qPar, qParO_, qPar3, qPar3O_, qFrz_, qApN_, qStN_, qIxO_, qLend, qLendT, qNoPart, qPart_, qSl, qRevL_, qIsi_, qSplit_, qJoin_, qBits_, qIL_, qIT, qR1_, qR2_, qIS_, qIE_, qgN, qgNil, qgCons_, qgT_, qFor, qLc, qYes, qCall, qCallO_, kAdd, kI0_, kI_, kMul, kB0_, kEq, kNe, kIsN, kNotN, kIn, kNin, kLen_l, kLen_t, kLen_s, kAbs_, kMax2_, kInt_i, kInt_s, kStr_, kSum, kAll_, kAny_, kNeg_, dat_dt, dat_ow, dat_pw, toDt_dt, toDt_ow, toDt_pw, toDt_un, okSlot_dt, okSlot_ow, okSlot_un, okP_dt, okP_un, ownOf_ow, ownOf_pw, isN_n, isN_b, isN_i, isN_s, isN_l, isN_t, flatD_n, flatD_b, flatD_i, flatD_s, setOwn, ixq_l_, ixq_t_, ixq_s_, slq_l, slq_s, eqq_ii, eqq_ss, eqq_ll, eqq_tt, inn_l, inn_s, wipeR, freeV, mTup_t, mBool_b, mBoolS_b, mInt_i, mStr_s, mLst_l, mOpt_s, mOw_o, mOwn_o, mI1_i, mI2_i, mL1_l]
    obtain ⟨q1, q2⟩ := lines_ll e' hz' ha'
    refine ⟨by decide, by omega, ?_⟩
    have hne : (linesOf z').map PyData.str ≠ [] := fun q => by
      have := congrArg List.length q
      simp at this
      rw [this] at q2
      simp at q2
    refine hK _ ⟨z, _, ⟨hz, ha⟩, ?_, q1.cut, ?_, rfl⟩
    · rw [e, str_app_len, str_app_len]; omega
    · show 0 < (DL.cutD ((linesOf z').map PyData.str) none (some (-1))).length
      rw [cutD_last hne, List.length_dropLast, List.length_map]
      omega
  rintro _ ⟨t, ls, ht, ht0, hls, hl0, rfl⟩
  have hlz := hls.len
  have htz := ht.1
  refine seq_i (fun ρ' => ∃ (a b c : Int) (g' : List PyData), 0 ≤ a ∧ a < ls.length ∧ 0 ≤ b ∧ b < ls.length ∧ 0 ≤ c ∧ c ≤ t.length ∧ Gen (n + 3) g' ∧ ρ' = T0 m rows g' .un .un .un .un .un (.dt (.str t)) (.dt (.list ls)) (.dt (.int a)) (.dt (.int b)) (.dt (.int c)) .un) (fun K hK => ?_) ?_
  · unfold T0
    simp [qVar_, qC, q2, q1, qTest_, qChain_, qAnd, qOr, qNot, qAndV_, qOrV_, qNotV_, qIf, qNil, qCons, qTup, qLst, qCB, qNext, qSeq, qRet, qRetN, qRetO_, qIfS, qAsg, qAsgO_, qPar, qParO_, qPar3, qPar3O_, qFrz_, qApN_, qStN_, qIxO_, qLend, qLendT, qNoPart, qPart_, qSl, qRevL_, qIsi_, qSplit_, qJoin_, qBits_, qIL_, qIT, qR1_, qR2_, qIS_, qIE_, qgN, qgNil, qgCons_, qgT_, qFor, qLc, qYes, qCall, qCallO_, kAdd, kI0_, kI_, kMul, kB0_, kEq, kNe, kIsN, kNotN, kIn, kNin, kLen_l, kLen_t, kLen_s, kAbs_, kMax2_, kInt_i, kInt_s, kStr_, kSum, kAll_, kAny_, kNeg_, dat_dt, dat_ow, dat_pw, toDt_dt, toDt_ow, toDt_pw, toDt_un, okSlot_dt, okSlot_ow, okSlot_un, okP_dt, okP_un, ownOf_ow, ownOf_pw, isN_n, isN_b, isN_i, isN_s, isN_l, isN_t, flatD_n, flatD_b, flatD_i, flatD_s, setOwn, ixq_l_, ixq_t_, ixq_s_, slq_l, slq_s, eqq_ii, eqq_ss, eqq_ll, eqq_tt, inn_l, inn_s, wipeR, freeV, mTup_t, mBool_b, mBoolS_b, mInt_i, mStr_s, mLst_l, mOpt_s, mOw_o, mOwn_o, mI1_i, mI2_i, mL1_l]
    refine ⟨n, g, _, rfl, by omega, hg, by omega, by omega, fun a g1 a0 a1 hg1 => ?_⟩
    simp [qVar_, qC, q2, q1, qTest_, qChain_, qAnd, qOr, qNot, qAndV_, qOrV_, qNotV_, qIf, qNil, qCons, qTup, qLst, qCB, qNext, qSeq, qRet, qRetN, qRetO_, qIfS, qAsg, qAsgO_, qPar, qParO_, qPar3, qPar3O_, qFrz_, qApN_, qStN_, qIxO_, qLend, qLendT, qNoPart, qPart_, qSl, qRevL_, qIsi_, qSplit_, qJoin_, qBits_, qIL_, qIT, qR1_, qR2_, qIS_, qIE_, qgN, qgNil, qgCons_, qgT_, qFor, qLc, qYes, qCall, qCallO_, kAdd, kI0_, kI_, kMul, kB0_, kEq, kNe, kIsN, kNotN, kIn, kNin, kLen_l, kLen_t, kLen_s, kAbs_, kMax2_, kInt_i, kInt_s, kStr_, kSum, kAll_, kAny_, kNeg_, dat_dt, dat_ow, dat_pw, toDt_dt, toDt_ow, toDt_pw, toDt_un, okSlot_dt, okSlot_ow, okSlot_un, okP_dt, okP_un, ownOf_ow, ownOf_pw, isN_n, isN_b, isN_i, isN_s, isN_l, isN_t, flatD_n, flatD_b, flatD_i, flatD_s, setOwn, ixq_l_, ixq_t_, ixq_s_, slq_l, slq_s, eqq_ii, eqq_ss, eqq_ll, eqq_tt, inn_l, inn_s, wipeR, freeV, mTup_t, mBool_b, mBoolS_b, mInt_i, mStr_s, mLst_l, mOpt_s, mOw_o, mOwn_o, mI1_i, mI2_i, mL1_l]
    refine ⟨n + 1, g1, _, rfl, by omega, hg1, by omega, by omega, fun b g2 b0 b1 hg2 => ?_⟩
    simp [qVar_, qC, q2, q1, qTest_, qChain_, qAnd, qOr, qNot, qAndV_, qOrV_, qNotV_, qIf, qNil, qCons, qTup, qLst, qCB, qNext, qSeq, qRet, qRetN, qRetO_, qIfS, qAsg, qAsgO_, qPar, qParO_, qPar3, qPar3O_, qFrz_, qApN_, qStN_, qIxO_, qLend, qLendT, qNoPart, qPart_, qSl, qRevL_, qIsi_, qSplit_, qJoin_, qBits_, qIL_, qIT, qR1_, qR2_, qIS_, qIE_, qgN, qgNil, qgCons_, qgT_, qFor, qLc, qYes, qCall, qCallO_, kAdd, kI0_, kI_, kMul, kB0_, kEq, kNe, kIsN, kNotN, kIn, kNin, kLen_l, kLen_t, kLen_s, kAbs_, kMax2_, kInt_i, kInt_s, kStr_, kSum, kAll_, kAny_, kNeg_, dat_dt, dat_ow, dat_pw, toDt_dt, toDt_ow, toDt_pw, toDt_un, okSlot_dt, okSlot_ow, okSlot_un, okP_dt, okP_un, ownOf_ow, ownOf_pw, isN_n, isN_b, isN_i, isN_s, isN_l, isN_t, flatD_n, flatD_b, flatD_i, flatD_s, setOwn, ixq_l_, ixq_t_, ixq_s_, slq_l, slq_s, eqq_ii, eqq_ss, eqq_ll, eqq_tt, inn_l, inn_s, wipeR, freeV, mTup_t, mBool_b, mBoolS_b, mInt_i, mStr_s, mLst_l, mOpt_s, mOw_o, mOwn_o, mI1_i, mI2_i, mL1_l]
    refine ⟨by omega, n + 2, g2, _, rfl, by omega, hg2, by omega, by omega, fun c g3 c0 c1 hg3 => ?_⟩
    simp [qVar_, qC, q2, q1, qTest_, qChain_, qAnd, qOr, qNot, qAndV_, qOrV_, qNotV_, qIf, qNil, qCons, qTup, qLst, qCB, qNext, qSeq, qRet, qRetN, qRetO_, qIfS, qAsg, qAsgO_, qPar, qParO_, qPar3, qPar3O_, qFrz_, qApN_, qStN_, qIxO_, qLend, qLendT, qNoPart, qPart_, qSl, qRevL_, qIsi_, qSplit_, qJoin_, qBits_, qIL_, qIT, qR1_, qR2_, qIS_, qIE_, qgN, qgNil, qgCons_, qgT_, qFor, qLc, qYes, qCall, qCallO_, kAdd, kI0_, kI_, kMul, kB0_, kEq, kNe, kIsN, kNotN, kIn, kNin, kLen_l, kLen_t, kLen_s, kAbs_, kMax2_, kInt_i, kInt_s, kStr_, kSum, kAll_, kAny_, kNeg_, dat_dt, dat_ow, dat_pw, toDt_dt, toDt_ow, toDt_pw, toDt_un, okSlot_dt, okSlot_ow, okSlot_un, okP_dt, okP_un, ownOf_ow, ownOf_pw, isN_n, isN_b, isN_i, isN_s, isN_l, isN_t, flatD_n, flatD_b, flatD_i, flatD_s, setOwn, ixq_l_, ixq_t_, ixq_s_, slq_l, slq_s, eqq_ii, eqq_ss, eqq_ll, eqq_tt, inn_l, inn_s, wipeR, freeV, mTup_t, mBool_b, mBoolS_b, mInt_i, mStr_s, mLst_l, mOpt_s, mOw_o, mOwn_o, mI1_i, mI2_i, mL1_l]
    exact hK _ ⟨a, b, c, g3, a0, a1, b0, b1, c0, by omega, hg3, rfl⟩
  rintro _ ⟨a, b, c, g1, a0, a1, b0, b1, c0, c1, hg1, rfl⟩
  refine seq_i (fun ρ' => ∃ zs : List Str, zs.length = 9 ∧ (∀ z ∈ zs, TxOk z) ∧ ρ' = T0 m rows g1 (.ow (zs.map .str)) .un .un .un .un (.dt (.str t)) (.dt (.list ls)) (.dt (.int a)) (.dt (.int b)) (.dt (.int c)) .un) (fun K hK => ?_) ?_
  · have v7 : Ex (qVar 7) (T0 m rows g1 .un .un .un .un .un (.dt (.str t)) (.dt (.list ls)) (.dt (.int a)) (.dt (.int b)) (.dt (.int c)) .un) (isT 2000) := Ex.var rfl ⟨_, rfl, ht⟩
    have v11 : Ex (qVar 11) (T0 m rows g1 .un .un .un .un .un (.dt (.str t)) (.dt (.list ls)) (.dt (.int a)) (.dt (.int b)) (.dt (.int c)) .un) isI := Ex.var rfl ⟨_, rfl⟩
    refine Ex.lstO (Q := fun d => ∃ zs : List Str, zs.length = 9 ∧ (∀ z ∈ zs, TxOk z) ∧ d = .list (zs.map .str)) ?_ 2 rfl ?_
    · refine Exs.cons v7 fun d1 ⟨x1, e1, t1⟩ => ?_
      refine Exs.cons (Ex.addT v7 (Ex.c (cT "\n" 1 (by decide))) (by decide)) fun d2 ⟨x2, e2, t2⟩ => ?_
      refine Exs.cons (Ex.slT v7 Eo.none (Eo.part (Ex.negI (Ex.c ⟨_, rfl⟩))) (by decide)) fun d3 ⟨x3, e3, t3⟩ => ?_
      refine Exs.cons (Ex.c (cT "" 1 (by decide))) fun d4 ⟨x4, e4, t4⟩ => ?_
      refine Exs.cons (Ex.c (cT "\n" 1 (by decide))) fun d5 ⟨x5, e5, t5⟩ => ?_
      refine Exs.cons (Ex.addT (Ex.c (cT " " 1 (by decide))) v7 (by decide)) fun d6 ⟨x6, e6, t6⟩ => ?_
      refine Exs.cons (Ex.addT v7 v7 (by decide)) fun d7 ⟨x7, e7, t7⟩ => ?_
      refine Exs.cons (Ex.slT v7 Eo.none (Eo.part v11) (by decide)) fun d8 ⟨x8, e8, t8⟩ => ?_
      refine Exs.cons (Ex.slT v7 (Eo.part v11) Eo.none (by decide)) fun d9 ⟨x9, e9, t9⟩ => Exs.nil ?_
      subst e1 e2 e3 e4 e5 e6 e7 e8 e9
      refine ⟨by simp, [x1, x2, x3, x4, x5, x6, x7, x8, x9], rfl, fun z hz => ?_, rfl⟩
      simp only [List.mem_cons, List.not_mem_nil, or_false] at hz
      rcases hz with e | e | e | e | e | e | e | e | e <;> subst e
      · exact t1.ok
      · exact t2.ok
      · exact t3.ok
      · exact t4.ok
      · exact t5.ok
      · exact t6.ok
      · exact t7.ok
      · exact t8.ok
      · exact t9.ok
    · rintro xs ⟨zs, h9, hzs, e⟩
      cases e
      exact hK _ ⟨zs, h9, hzs, rfl⟩
  rintro _ ⟨zs, hz9, hzs, rfl⟩
  refine seq_i (fun ρ' => ∃ qs : List PyData, qs.length ≤ 4 ∧ (∀ q ∈ qs, isL 20000 q) ∧ ρ' = T0 m rows g1 (.ow (zs.map .str)) (.dt (.list qs)) .un .un .un (.dt (.str t)) (.dt (.list ls)) (.dt (.int a)) (.dt (.int b)) (.dt (.int c)) .un) (fun K hK => ?_) ?_
  · have v8 : Ex (qVar 8) (T0 m rows g1 (.ow (zs.map .str)) .un .un .un .un (.dt (.str t)) (.dt (.list ls)) (.dt (.int a)) (.dt (.int b)) (.dt (.int c)) .un) (isL 2001) := Ex.var rfl ⟨_, rfl, hls⟩
    have v9 : Ex (qVar 9) (T0 m rows g1 (.ow (zs.map .str)) .un .un .un .un (.dt (.str t)) (.dt (.list ls)) (.dt (.int a)) (.dt (.int b)) (.dt (.int c)) .un) isI := Ex.var rfl ⟨_, rfl⟩
    have c1 : Ex (qC (.int 1)) (T0 m rows g1 (.ow (zs.map .str)) .un .un .un .un (.dt (.str t)) (.dt (.list ls)) (.dt (.int a)) (.dt (.int b)) (.dt (.int c)) .un) isI := Ex.c ⟨_, rfl⟩
    have up : ∀ A, A ≤ 20000 → ∀ d, isL A d → isL 20000 d := fun A hA d ⟨x, e, q⟩ => ⟨x, e, q.up hA⟩
    refine Ex.asg (P := fun d => ∃ xs, d = .list xs ∧ xs.length ≤ 4 ∧ ∀ x ∈ xs, isL 20000 x) ?_ 3 rfl ?_
    · refine Ex.four ?_ ?_ ?_ ?_
      · exact (Ex.addL (v8.slL Eo.none (.part v9)) (v8.slL (.part (.addI v9 c1)) .none) (by decide)).up (up _ (by decide))
      · exact (Ex.addL (.addL (v8.slL Eo.none (.part v9)) (v8.slL (.part v9) (.part (.addI v9 c1))) (by decide)) (v8.slL (.part v9) .none) (by decide)).up (up _ (by decide))
      · exact (Ex.revL v8).up (up _ (by decide))
      · exact (Ex.addL (.addL (v8.slL Eo.none (.part v9)) (Ex.oneL (Ex.ixL (Ex.var rfl rfl) (Ex.var rfl rfl) hls b0 b1)) (by decide)) (v8.slL (.part (.addI v9 c1)) .none) (by decide)).up (up _ (by decide))
    · rintro _ ⟨xs, rfl, l4, hx⟩
      exact hK _ ⟨xs, l4, hx, rfl⟩
  rintro _ ⟨qs, hq4, hqs, rfl⟩
  refine seq_i (fun ρ' => ∃ db : Str, TB 300 db ∧ ρ' = T0 m rows g1 (.ow (zs.map .str)) (.dt (.list qs)) (.dt (.str db)) .un .un (.dt (.str t)) (.dt (.list ls)) (.dt (.int a)) (.dt (.int b)) (.dt (.int c)) .un) (fun K hK => ?_) ?_
  · obtain ⟨h1, h3, n1, n5, hrs⟩ := hP
    cases rows with
    | nil => exact absurd n1 (by decide)
    | cons r rest =>
      obtain ⟨w1, w2⟩ := hrs r (by simp)
      unfold T0
      have p2 : atI [PyData.str "planes", PyData.int m, rowsD (r :: rest)] 2 = some (rowsD (r :: rest)) := rfl
      have p3 : ixq (rowsD (r :: rest)) (.int 0) = fun Q => ixq (.list ((r :: rest).map rowD)) (.int 0) Q := rfl
      have p4 : atI ((r :: rest).map rowD) 0 = some (rowD r) := by
        rw [List.map_cons]
        have : ixN (rowD r :: rest.map rowD).length 0 = some 0 := by unfold ixN; simp
        unfold atI
        rw [this]; rfl
      unfold plD
      simp [qVar_, qC, q2, q1, qTest_, qChain_, qAnd, qOr, qNot, qAndV_, qOrV_, qNotV_, qIf, qNil, qCons, qTup, qLst, qCB, qNext, qSeq, qRet, qRetN, qRetO_, qIfS, qAsg, qAsgO_, qPar, qParO_, qPar3, qPar3O_, qFrz_, qApN_, qStN_, qIxO_, qLend, qLendT, qNoPart, qPart_, qSl, qRevL_, qIsi_, qSplit_, qJoin_, qBits_, qIL_, qIT, qR1_, qR2_, qIS_, qIE_, qgN, qgNil, qgCons_, qgT_, qFor, qLc, qYes, qCall, qCallO_, kAdd, kI0_, kI_, kMul, kB0_, kEq, kNe, kIsN, kNotN, kIn, kNin, kLen_l, kLen_t, kLen_s, kAbs_, kMax2_, kInt_i, kInt_s, kStr_, kSum, kAll_, kAny_, kNeg_, dat_dt, dat_ow, dat_pw, toDt_dt, toDt_ow, toDt_pw, toDt_un, okSlot_dt, okSlot_ow, okSlot_un, okP_dt, okP_un, ownOf_ow, ownOf_pw, isN_n, isN_b, isN_i, isN_s, isN_l, isN_t, flatD_n, flatD_b, flatD_i, flatD_s, setOwn, ixq_l_, ixq_t_, ixq_s_, slq_l, slq_s, eqq_ii, eqq_ss, eqq_ll, eqq_tt, inn_l, inn_s, wipeR, freeV, mTup_t, mBool_b, mBoolS_b, mInt_i, mStr_s, mLst_l, mOpt_s, mOw_o, mOwn_o, mI1_i, mI2_i, mL1_l, p2]
      rw [p3]
      simp only [ixq_l_, p4, mOpt_s, dat_dt]
      unfold rowD
      simp only [mLst_l]
      refine lc_map rfl (by simp; exact Nat.le_trans (by omega) z8) rfl (fun d => frD (mulF (unF d) (-3, 2))) ?_ ?_
      · intro d hd Y hY
        obtain ⟨f, hf, rfl⟩ := List.mem_map.mp hd
        have e : unF (frD f) = f := rfl
        rw [e] at hY
        simp [qVar_, qC, q2, q1, qTest_, qChain_, qAnd, qOr, qNot, qAndV_, qOrV_, qNotV_, qIf, qNil, qCons, qTup, qLst, qCB, qNext, qSeq, qRet, qRetN, qRetO_, qIfS, qAsg, qAsgO_, qPar, qParO_, qPar3, qPar3O_, qFrz_, qApN_, qStN_, qIxO_, qLend, qLendT, qNoPart, qPart_, qSl, qRevL_, qIsi_, qSplit_, qJoin_, qBits_, qIL_, qIT, qR1_, qR2_, qIS_, qIE_, qgN, qgNil, qgCons_, qgT_, qFor, qLc, qYes, qCall, qCallO_, kAdd, kI0_, kI_, kMul, kB0_, kEq, kNe, kIsN, kNotN, kIn, kNin, kLen_l, kLen_t, kLen_s, kAbs_, kMax2_, kInt_i, kInt_s, kStr_, kSum, kAll_, kAny_, kNeg_, dat_dt, dat_ow, dat_pw, toDt_dt, toDt_ow, toDt_pw, toDt_un, okSlot_dt, okSlot_ow, okSlot_un, okP_dt, okP_un, ownOf_ow, ownOf_pw, isN_n, isN_b, isN_i, isN_s, isN_l, isN_t, flatD_n, flatD_b, flatD_i, flatD_s, setOwn, ixq_l_, ixq_t_, ixq_s_, slq_l, slq_s, eqq_ii, eqq_ss, eqq_ll, eqq_tt, inn_l, inn_s, wipeR, freeV, mTup_t, mBool_b, mBoolS_b, mInt_i, mStr_s, mLst_l, mOpt_s, mOw_o, mOwn_o, mI1_i, mI2_i, mL1_l]
        exact ⟨by decide, f, (-3, 2), rfl, (w2 f hf).ok, ⟨by decide, by decide, by decide⟩, fun ys => hY⟩
      · simp only [dat_ow]
        have em : ((r.map frD).map fun d => frD (mulF (unF d) (-3, 2))) = (r.map fun f => mulF f (-3, 2)).map frD := by
          rw [List.map_map, List.map_map]; rfl
        rw [em]
        refine ⟨_, rfl, by rw [List.length_map]; omega, fun f hf => ?_, fun z hz ha ys => ?_⟩
        · obtain ⟨f, hf', rfl⟩ := List.mem_map.mp hf
          obtain ⟨a1, a2, a3⟩ := w2 f hf'
          have := low_le (a := f.1 * -3) (b := f.2 * 2) (by omega)
          have e1 : mulF f (-3, 2) = low (f.1 * -3) (f.2 * 2) := rfl
          rw [e1]
          exact ⟨by omega, this.2.1, by omega⟩
        · simp [qVar_, qC, q2, q1, qTest_, qChain_, qAnd, qOr, qNot, qAndV_, qOrV_, qNotV_, qIf, qNil, qCons, qTup, qLst, qCB, qNext, qSeq, qRet, qRetN, qRetO_, qIfS, qAsg, qAsgO_, qPar, qParO_, qPar3, qPar3O_, qFrz_, qApN_, qStN_, qIxO_, qLend, qLendT, qNoPart, qPart_, qSl, qRevL_, qIsi_, qSplit_, qJoin_, qBits_, qIL_, qIT, qR1_, qR2_, qIS_, qIE_, qgN, qgNil, qgCons_, qgT_, qFor, qLc, qYes, qCall, qCallO_, kAdd, kI0_, kI_, kMul, kB0_, kEq, kNe, kIsN, kNotN, kIn, kNin, kLen_l, kLen_t, kLen_s, kAbs_, kMax2_, kInt_i, kInt_s, kStr_, kSum, kAll_, kAny_, kNeg_, dat_dt, dat_ow, dat_pw, toDt_dt, toDt_ow, toDt_pw, toDt_un, okSlot_dt, okSlot_ow, okSlot_un, okP_dt, okP_un, ownOf_ow, ownOf_pw, isN_n, isN_b, isN_i, isN_s, isN_l, isN_t, flatD_n, flatD_b, flatD_i, flatD_s, setOwn, ixq_l_, ixq_t_, ixq_s_, slq_l, slq_s, eqq_ii, eqq_ss, eqq_ll, eqq_tt, inn_l, inn_s, wipeR, freeV, mTup_t, mBool_b, mBoolS_b, mInt_i, mStr_s, mLst_l, mOpt_s, mOw_o, mOwn_o, mI1_i, mI2_i, mL1_l]
          exact hK _ ⟨z, ⟨hz, ha⟩, rfl⟩
  rintro _ ⟨db, hdb, rfl⟩
  obtain ⟨h1, h3, n1, n5, hrs⟩ := hP
  refine seq_i (fun ρ' => ∃ N, N ≤ 8 ∧ IwF m rows g1 qs db t ls a b c N ρ') (fun K hK => ?_) ?_
  · have v8 : Ex (qVar 8) (T0 m rows g1 (.ow (zs.map .str)) (.dt (.list qs)) (.dt (.str db)) .un .un (.dt (.str t)) (.dt (.list ls)) (.dt (.int a)) (.dt (.int b)) (.dt (.int c)) .un) (isL 2001) := Ex.var rfl ⟨_, rfl, hls⟩
    have up : ∀ A, A ≤ 20000 → ∀ d, isL A d → isL 20000 d := fun A hA d ⟨x, e, q⟩ => ⟨x, e, q.up hA⟩
    have mm : Ex (q2 ixq (qVar 1) (qC (.int 1))) (T0 m rows g1 (.ow (zs.map .str)) (.dt (.list qs)) (.dt (.str db)) .un .un (.dt (.str t)) (.dt (.list ls)) (.dt (.int a)) (.dt (.int b)) (.dt (.int c)) .un) (fun d => d = .int m) := Ex.ixT (Ex.var rfl rfl) (Ex.c rfl) (show atI [PyData.str "planes", PyData.int m, rowsD rows] 1 = some (.int m) from rfl) rfl
    have hit : Ex (q2 kAdd (qVar 3) (qLst (qCons (q2 kAdd (qVar 8) (qLst (qCons (qVar 4) (qNil)))) (qCons (q2 kAdd (qVar 8) (qLst (qCons (q2 kAdd (q2 kMul (qC (.str "0 ")) (q2 ixq (qVar 1) (qC (.int 1)))) (qC (.str "1"))) (qNil)))) (qCons (q2 kAdd (qVar 8) (qLst (qCons (q2 kAdd (q2 kMul (qC (.str "1 ")) (q2 ixq (qVar 1) (qC (.int 1)))) (qC (.str "900"))) (qNil)))) (qCons (q2 kAdd (qVar 8) (qLst (qCons (q2 kAdd (q2 kMul (qC (.str "1 ")) (q2 ixq (qVar 1) (qC (.int 1)))) (qC (.str "2/4"))) (qNil)))) (qNil)))))))
        (T0 m rows g1 (.ow (zs.map .str)) (.dt (.list qs)) (.dt (.str db)) .un .un (.dt (.str t)) (.dt (.list ls)) (.dt (.int a)) (.dt (.int b)) (.dt (.int c)) .un) fun d => ∃ xs, d = .list xs ∧ xs.length ≤ 4 + 4 ∧ ∀ x ∈ xs, isL 20000 x := by
      refine Ex.addLs (Ex.var rfl ⟨qs, rfl, hq4, hqs⟩) (Ex.four ?_ ?_ ?_ ?_) (by decide)
      · exact (Ex.addL v8 (Ex.oneL (A := 300) (Ex.var rfl ⟨db, rfl, hdb⟩)) (by decide)).up (up _ (by decide))
      · exact (Ex.addL v8 (Ex.oneL (Ex.addT (Ex.mulS (Ex.c rfl) mm (mul0 h1 h3).1 (mul0 h1 h3).2) (Ex.c (cT "1" 10 (by decide))) (by decide))) (by decide)).up (up _ (by decide))
      · exact (Ex.addL v8 (Ex.oneL (Ex.addT (Ex.mulS (Ex.c rfl) mm (mul1 h1 h3).1 (mul1 h1 h3).2) (Ex.c (cT "900" 10 (by decide))) (by decide))) (by decide)).up (up _ (by decide))
      · exact (Ex.addL v8 (Ex.oneL (Ex.addT (Ex.mulS (Ex.c rfl) mm (mul1 h1 h3).1 (mul1 h1 h3).2) (Ex.c (cT "2/4" 10 (by decide))) (by decide))) (by decide)).up (up _ (by decide))
    refine hit _ fun s ⟨xs, ex, lx, hx⟩ => ⟨xs, ex, IwF m rows g1 qs db t ls a b c, ⟨zs, .un, hz9, hzs, rfl, rfl⟩, ?_, ?_⟩
    · rintro i d _ hd ⟨zs, s5, l9, hzs, o5, rfl⟩
      obtain ⟨ds, rfl, us, rfl, wu, hu⟩ := hx d (List.mem_of_getElem? hd)
      have hi : i < xs.length := (List.getElem?_eq_some_iff.mp hd).1
      have lu := wt_len us
      unfold T0
      simp [qVar_, qC, q2, q1, qTest_, qChain_, qAnd, qOr, qNot, qAndV_, qOrV_, qNotV_, qIf, qNil, qCons, qTup, qLst, qCB, qNext, qSeq, qRet, qRetN, qRetO_, qIfS, qAsg, qAsgO_, qPar, qParO_, qPar3, qPar3O_, qFrz_, qApN_, qStN_, qIxO_, qLend, qLendT, qNoPart, qPart_, qSl, qRevL_, qIsi_, qSplit_, qJoin_, qBits_, qIL_, qIT, qR1_, qR2_, qIS_, qIE_, qgN, qgNil, qgCons_, qgT_, qFor, qLc, qYes, qCall, qCallO_, kAdd, kI0_, kI_, kMul, kB0_, kEq, kNe, kIsN, kNotN, kIn, kNin, kLen_l, kLen_t, kLen_s, kAbs_, kMax2_, kInt_i, kInt_s, kStr_, kSum, kAll_, kAny_, kNeg_, dat_dt, dat_ow, dat_pw, toDt_dt, toDt_ow, toDt_pw, toDt_un, okSlot_dt, okSlot_ow, okSlot_un, okP_dt, okP_un, ownOf_ow, ownOf_pw, isN_n, isN_b, isN_i, isN_s, isN_l, isN_t, flatD_n, flatD_b, flatD_i, flatD_s, setOwn, ixq_l_, ixq_t_, ixq_s_, slq_l, slq_s, eqq_ii, eqq_ss, eqq_ll, eqq_tt, inn_l, inn_s, wipeR, freeV, mTup_t, mBool_b, mBoolS_b, mInt_i, mStr_s, mLst_l, mOpt_s, mOw_o, mOwn_o, mI1_i, mI2_i, mL1_l]
      refine ⟨o5, ?_⟩
      refine lc_map rfl (by simp; omega) rfl (fun d => match d with | .str x => .str (x ++ ("\n" : Str)) | _ => .none) ?_ ?_
      · intro d hd Y hY
        obtain ⟨x, hx', rfl⟩ := List.mem_map.mp hd
        have := wt_mem hx'
        simp [qVar_, qC, q2, q1, qTest_, qChain_, qAnd, qOr, qNot, qAndV_, qOrV_, qNotV_, qIf, qNil, qCons, qTup, qLst, qCB, qNext, qSeq, qRet, qRetN, qRetO_, qIfS, qAsg, qAsgO_, qPar, qParO_, qPar3, qPar3O_, qFrz_, qApN_, qStN_, qIxO_, qLend, qLendT, qNoPart, qPart_, qSl, qRevL_, qIsi_, qSplit_, qJoin_, qBits_, qIL_, qIT, qR1_, qR2_, qIS_, qIE_, qgN, qgNil, qgCons_, qgT_, qFor, qLc, qYes, qCall, qCallO_, kAdd, kI0_, kI_, kMul, kB0_, kEq, kNe, kIsN, kNotN, kIn, kNin, kLen_l, kLen_t, kLen_s, kAbs_, kMax2_, kInt_i, kInt_s, kStr_, kSum, kAll_, kAny_, kNeg_, dat_dt, dat_ow, dat_pw, toDt_dt, toDt_ow, toDt_pw, toDt_un, okSlot_dt, okSlot_ow, okSlot_un, okP_dt, okP_un, ownOf_ow, ownOf_pw, isN_n, isN_b, isN_i, isN_s, isN_l, isN_t, flatD_n, flatD_b, flatD_i, flatD_s, setOwn, ixq_l_, ixq_t_, ixq_s_, slq_l, slq_s, eqq_ii, eqq_ss, eqq_ll, eqq_tt, inn_l, inn_s, wipeR, freeV, mTup_t, mBool_b, mBoolS_b, mInt_i, mStr_s, mLst_l, mOpt_s, mOw_o, mOwn_o, mI1_i, mI2_i, mL1_l]
        refine ⟨by omega, hY⟩
      · have em : ((us.map PyData.str).map (fun d => match d with | .str x => PyData.str (x ++ ("\n" : Str)) | _ => .none)) = (us.map (· ++ ("\n" : Str))).map PyData.str := by
          rw [List.map_map, List.map_map]; rfl
        rw [em]
        simp only [dat_ow]
        have hs : ((us.map (· ++ ("\n" : Str))).map (·.length)).sum = wt us := by
          unfold wt
          rw [List.map_map]
          refine congrArg _ (List.map_congr_left fun x _ => ?_)
          show (x ++ ("\n" : Str)).length = _
          rw [str_app_len, ln]
        have le : ("" : Str).length = 0 := by decide
        have hj := join_len ("" : Str) (us.map (· ++ ("\n" : Str)))
        rw [hs, le] at hj
        refine ⟨_, rfl, by rw [hs, le]; omega, ?_⟩
        simp [qVar_, qC, q2, q1, qTest_, qChain_, qAnd, qOr, qNot, qAndV_, qOrV_, qNotV_, qIf, qNil, qCons, qTup, qLst, qCB, qNext, qSeq, qRet, qRetN, qRetO_, qIfS, qAsg, qAsgO_, qPar, qParO_, qPar3, qPar3O_, qFrz_, qApN_, qStN_, qIxO_, qLend, qLendT, qNoPart, qPart_, qSl, qRevL_, qIsi_, qSplit_, qJoin_, qBits_, qIL_, qIT, qR1_, qR2_, qIS_, qIE_, qgN, qgNil, qgCons_, qgT_, qFor, qLc, qYes, qCall, qCallO_, kAdd, kI0_, kI_, kMul, kB0_, kEq, kNe, kIsN, kNotN, kIn, kNin, kLen_l, kLen_t, kLen_s, kAbs_, kMax2_, kInt_i, kInt_s, kStr_, kSum, kAll_, kAny_, kNeg_, dat_dt, dat_ow, dat_pw, toDt_dt, toDt_ow, toDt_pw, toDt_un, okSlot_dt, okSlot_ow, okSlot_un, okP_dt, okP_un, ownOf_ow, ownOf_pw, isN_n, isN_b, isN_i, isN_s, isN_l, isN_t, flatD_n, flatD_b, flatD_i, flatD_s, setOwn, ixq_l_, ixq_t_, ixq_s_, slq_l, slq_s, eqq_ii, eqq_ss, eqq_ll, eqq_tt, inn_l, inn_s, wipeR, freeV, mTup_t, mBool_b, mBoolS_b, mInt_i, mStr_s, mLst_l, mOpt_s, mOw_o, mOwn_o, mI1_i, mI2_i, mL1_l]
        refine ⟨by omega, zs ++ [Txt.join ("" : Str) (us.map (· ++ ("\n" : Str)))], .dt (.list (us.map .str)), by simp; omega, fun z hz => ?_, rfl, by rw [List.map_append]; rfl⟩
        rcases List.mem_append.mp hz with hz | hz
        · exact hzs z hz
        · rw [List.mem_singleton.mp hz]
          refine ⟨by omega, asc_join (asc_of "") fun l hl => ?_⟩
          obtain ⟨x, hx', rfl⟩ := List.mem_map.mp hl
          exact (hu x hx').app (asc_of "\n")
    · intro ρ2 hI
      exact hK _ ⟨xs.length, lx, hI⟩
  rintro _ ⟨N, hN, zs, s5, l9, hzs, o5, rfl⟩
  refine seq_i (fun ρ' => IwG n m rows qs db t ls a b c s5 0 5 ρ') (fun K hK => ?_) ?_
  · have c0 : Ex (qC (.int 5)) (T0 m rows g1 (.ow (zs.map .str)) (.dt (.list qs)) (.dt (.str db)) s5 .un (.dt (.str t)) (.dt (.list ls)) (.dt (.int a)) (.dt (.int b)) (.dt (.int c)) .un) (fun d => d = .int 5) := Ex.c rfl
    simp only [qFor, qR1_, qCons, qC, qNil, dat_dt, mI1_i]
    refine ⟨by decide, IwG n m rows qs db t ls a b c s5 0, ⟨zs, g1, .un, .un, by omega, hzs, rfl, rfl, hg1, rfl⟩, ?_, ?_⟩
    · rintro i d _ hd ⟨zs, g2, s6, s12, l9, hzs, o6, o12, hg2, rfl⟩
      obtain ⟨hi, rfl⟩ := rngD_get hd
      have hi5 : i < 5 := hi
      unfold T0
      have o12' : okSlot (some s12) = true := okSlot_of o12
      refine ⟨o6, ?_⟩
      refine seq_i (fun ρ' => ∃ (h : Int) (g3 : List PyData), Gen (n + 3 + 3 * i + 1) g3 ∧ ρ' = T0 m rows g3 (.ow (zs.map .str)) (.dt (.list qs)) (.dt (.str db)) s5 (.dt (.int (0 + (i : Int)))) (.dt (.str t)) (.dt (.list ls)) (.dt (.int a)) (.dt (.int b)) (.dt (.int c)) (.dt (.int h))) (fun K hK => ?_) ?_
      · simp [qVar_, qC, q2, q1, qTest_, qChain_, qAnd, qOr, qNot, qAndV_, qOrV_, qNotV_, qIf, qNil, qCons, qTup, qLst, qCB, qNext, qSeq, qRet, qRetN, qRetO_, qIfS, qAsg, qAsgO_, qPar, qParO_, qPar3, qPar3O_, qFrz_, qApN_, qStN_, qIxO_, qLend, qLendT, qNoPart, qPart_, qSl, qRevL_, qIsi_, qSplit_, qJoin_, qBits_, qIL_, qIT, qR1_, qR2_, qIS_, qIE_, qgN, qgNil, qgCons_, qgT_, qFor, qLc, qYes, qCall, qCallO_, kAdd, kI0_, kI_, kMul, kB0_, kEq, kNe, kIsN, kNotN, kIn, kNin, kLen_l, kLen_t, kLen_s, kAbs_, kMax2_, kInt_i, kInt_s, kStr_, kSum, kAll_, kAny_, kNeg_, dat_dt, dat_ow, dat_pw, toDt_dt, toDt_ow, toDt_pw, toDt_un, okSlot_dt, okSlot_ow, okSlot_un, okP_dt, okP_un, ownOf_ow, ownOf_pw, isN_n, isN_b, isN_i, isN_s, isN_l, isN_t, flatD_n, flatD_b, flatD_i, flatD_s, setOwn, ixq_l_, ixq_t_, ixq_s_, slq_l, slq_s, eqq_ii, eqq_ss, eqq_ll, eqq_tt, inn_l, inn_s, wipeR, freeV, mTup_t, mBool_b, mBoolS_b, mInt_i, mStr_s, mLst_l, mOpt_s, mOw_o, mOwn_o, mI1_i, mI2_i, mL1_l]
        refine ⟨by omega, n + 3 + 3 * i, g2, _, rfl, by omega, hg2, by omega, by omega, fun h g3 a0 a1 hg3 => ?_⟩
        simp [qVar_, qC, q2, q1, qTest_, qChain_, qAnd, qOr, qNot, qAndV_, qOrV_, qNotV_, qIf, qNil, qCons, qTup, qLst, qCB, qNext, qSeq, qRet, qRetN, qRetO_, qIfS, qAsg, qAsgO_, qPar, qParO_, qPar3, qPar3O_, qFrz_, qApN_, qStN_, qIxO_, qLend, qLendT, qNoPart, qPart_, qSl, qRevL_, qIsi_, qSplit_, qJoin_, qBits_, qIL_, qIT, qR1_, qR2_, qIS_, qIE_, qgN, qgNil, qgCons_, qgT_, qFor, qLc, qYes, qCall, qCallO_, kAdd, kI0_, kI_, kMul, kB0_, kEq, kNe, kIsN, kNotN, kIn, kNin, kLen_l, kLen_t, kLen_s, kAbs_, kMax2_, kInt_i, kInt_s, kStr_, kSum, kAll_, kAny_, kNeg_, dat_dt, dat_ow, dat_pw, toDt_dt, toDt_ow, toDt_pw, toDt_un, okSlot_dt, okSlot_ow, okSlot_un, okP_dt, okP_un, ownOf_ow, ownOf_pw, isN_n, isN_b, isN_i, isN_s, isN_l, isN_t, flatD_n, flatD_b, flatD_i, flatD_s, setOwn, ixq_l_, ixq_t_, ixq_s_, slq_l, slq_s, eqq_ii, eqq_ss, eqq_ll, eqq_tt, inn_l, inn_s, wipeR, freeV, mTup_t, mBool_b, mBoolS_b, mInt_i, mStr_s, mLst_l, mOpt_s, mOw_o, mOwn_o, mI1_i, mI2_i, mL1_l]
        exact ⟨o12', hK _ ⟨h, g3, hg3, by unfold T0; simp⟩⟩
      rintro _ ⟨h, g3, hg3, rfl⟩
      unfold T0
      simp [qVar_, qC, q2, q1, qTest_, qChain_, qAnd, qOr, qNot, qAndV_, qOrV_, qNotV_, qIf, qNil, qCons, qTup, qLst, qCB, qNext, qSeq, qRet, qRetN, qRetO_, qIfS, qAsg, qAsgO_, qPar, qParO_, qPar3, qPar3O_, qFrz_, qApN_, qStN_, qIxO_, qLend, qLendT, qNoPart, qPart_, qSl, qRevL_, qIsi_, qSplit_, qJoin_, qBits_, qIL_, qIT, qR1_, qR2_, qIS_, qIE_, qgN, qgNil, qgCons_, qgT_, qFor, qLc, qYes, qCall, qCallO_, kAdd, kI0_, kI_, kMul, kB0_, kEq, kNe, kIsN, kNotN, kIn, kNin, kLen_l, kLen_t, kLen_s, kAbs_, kMax2_, kInt_i, kInt_s, kStr_, kSum, kAll_, kAny_, kNeg_, dat_dt, dat_ow, dat_pw, toDt_dt, toDt_ow, toDt_pw, toDt_un, okSlot_dt, okSlot_ow, okSlot_un, okP_dt, okP_un, ownOf_ow, ownOf_pw, isN_n, isN_b, isN_i, isN_s, isN_l, isN_t, flatD_n, flatD_b, flatD_i, flatD_s, setOwn, ixq_l_, ixq_t_, ixq_s_, slq_l, slq_s, eqq_ii, eqq_ss, eqq_ll, eqq_tt, inn_l, inn_s, wipeR, freeV, mTup_t, mBool_b, mBoolS_b, mInt_i, mStr_s, mLst_l, mOpt_s, mOw_o, mOwn_o, mI1_i, mI2_i, mL1_l]
      refine ⟨by omega, by decide, n + 3 + 3 * i + 1, g3, _, rfl, by omega, hg3, by simp, by simp, fun x hx g4 hg4 => ?_⟩
      have hx' : ∃ z : Str, x = .str z ∧ TB 1 z := by
        simp only [List.mem_cons, List.not_mem_nil, or_false] at hx
        rcases hx with e | e | e | e | e | e | e <;> subst e <;> exact ⟨_, rfl, by decide, asc_of _⟩
      obtain ⟨z, rfl, hz1⟩ := hx'
      simp [qVar_, qC, q2, q1, qTest_, qChain_, qAnd, qOr, qNot, qAndV_, qOrV_, qNotV_, qIf, qNil, qCons, qTup, qLst, qCB, qNext, qSeq, qRet, qRetN, qRetO_, qIfS, qAsg, qAsgO_, qPar, qParO_, qPar3, qPar3O_, qFrz_, qApN_, qStN_, qIxO_, qLend, qLendT, qNoPart, qPart_, qSl, qRevL_, qIsi_, qSplit_, qJoin_, qBits_, qIL_, qIT, qR1_, qR2_, qIS_, qIE_, qgN, qgNil, qgCons_, qgT_, qFor, qLc, qYes, qCall, qCallO_, kAdd, kI0_, kI_, kMul, kB0_, kEq, kNe, kIsN, kNotN, kIn, kNin, kLen_l, kLen_t, kLen_s, kAbs_, kMax2_, kInt_i, kInt_s, kStr_, kSum, kAll_, kAny_, kNeg_, dat_dt, dat_ow, dat_pw, toDt_dt, toDt_ow, toDt_pw, toDt_un, okSlot_dt, okSlot_ow, okSlot_un, okP_dt, okP_un, ownOf_ow, ownOf_pw, isN_n, isN_b, isN_i, isN_s, isN_l, isN_t, flatD_n, flatD_b, flatD_i, flatD_s, setOwn, ixq_l_, ixq_t_, ixq_s_, slq_l, slq_s, eqq_ii, eqq_ss, eqq_ll, eqq_tt, inn_l, inn_s, wipeR, freeV, mTup_t, mBool_b, mBoolS_b, mInt_i, mStr_s, mLst_l, mOpt_s, mOw_o, mOwn_o, mI1_i, mI2_i, mL1_l]
      have hc1 : TB 2000 (cutS t none (some h)) := ht.cut
      have k1 := hc1.1
      have k2 := hz1.1
      refine ⟨by omega, n + 3 + 3 * i + 1 + 1, g4, _, rfl, by omega, hg4, by decide, by decide, fun y g5 y0 y1 hg5 => ?_⟩
      simp [qVar_, qC, q2, q1, qTest_, qChain_, qAnd, qOr, qNot, qAndV_, qOrV_, qNotV_, qIf, qNil, qCons, qTup, qLst, qCB, qNext, qSeq, qRet, qRetN, qRetO_, qIfS, qAsg, qAsgO_, qPar, qParO_, qPar3, qPar3O_, qFrz_, qApN_, qStN_, qIxO_, qLend, qLendT, qNoPart, qPart_, qSl, qRevL_, qIsi_, qSplit_, qJoin_, qBits_, qIL_, qIT, qR1_, qR2_, qIS_, qIE_, qgN, qgNil, qgCons_, qgT_, qFor, qLc, qYes, qCall, qCallO_, kAdd, kI0_, kI_, kMul, kB0_, kEq, kNe, kIsN, kNotN, kIn, kNin, kLen_l, kLen_t, kLen_s, kAbs_, kMax2_, kInt_i, kInt_s, kStr_, kSum, kAll_, kAny_, kNeg_, dat_dt, dat_ow, dat_pw, toDt_dt, toDt_ow, toDt_pw, toDt_un, okSlot_dt, okSlot_ow, okSlot_un, okP_dt, okP_un, ownOf_ow, ownOf_pw, isN_n, isN_b, isN_i, isN_s, isN_l, isN_t, flatD_n, flatD_b, flatD_i, flatD_s, setOwn, ixq_l_, ixq_t_, ixq_s_, slq_l, slq_s, eqq_ii, eqq_ss, eqq_ll, eqq_tt, inn_l, inn_s, wipeR, freeV, mTup_t, mBool_b, mBoolS_b, mInt_i, mStr_s, mLst_l, mOpt_s, mOw_o, mOwn_o, mI1_i, mI2_i, mL1_l]
      have hc2 : TB 2000 (cutS t (some (h + y)) none) := ht.cut
      have k3 := hc2.1
      refine ⟨by omega, by rw [str_app_len]; omega, by omega, zs ++ [cutS t none (some h) ++ z ++ cutS t (some (h + y)) none], g5, .dt (.int i), .dt (.int h), by simp; omega, fun w hw => ?_, rfl, rfl, hg5.up (by omega), by unfold T0; simp⟩
      rcases List.mem_append.mp hw with hw | hw
      · exact hzs w hw
      · rw [List.mem_singleton.mp hw]
        exact ((hc1.app hz1).app hc2).ok
    · intro ρ2 hI
      exact hK _ hI
  rintro _ ⟨zs, g2, s6, s12, lz, hzs, o6, o12, hg2, rfl⟩
  unfold T0
  simp [qVar_, qC, q2, q1, qTest_, qChain_, qAnd, qOr, qNot, qAndV_, qOrV_, qNotV_, qIf, qNil, qCons, qTup, qLst, qCB, qNext, qSeq, qRet, qRetN, qRetO_, qIfS, qAsg, qAsgO_, qPar, qParO_, qPar3, qPar3O_, qFrz_, qApN_, qStN_, qIxO_, qLend, qLendT, qNoPart, qPart_, qSl, qRevL_, qIsi_, qSplit_, qJoin_, qBits_, qIL_, qIT, qR1_, qR2_, qIS_, qIE_, qgN, qgNil, qgCons_, qgT_, qFor, qLc, qYes, qCall, qCallO_, kAdd, kI0_, kI_, kMul, kB0_, kEq, kNe, kIsN, kNotN, kIn, kNin, kLen_l, kLen_t, kLen_s, kAbs_, kMax2_, kInt_i, kInt_s, kStr_, kSum, kAll_, kAny_, kNeg_, dat_dt, dat_ow, dat_pw, toDt_dt, toDt_ow, toDt_pw, toDt_un, okSlot_dt, okSlot_ow, okSlot_un, okP_dt, okP_un, ownOf_ow, ownOf_pw, isN_n, isN_b, isN_i, isN_s, isN_l, isN_t, flatD_n, flatD_b, flatD_i, flatD_s, setOwn, ixq_l_, ixq_t_, ixq_s_, slq_l, slq_s, eqq_ii, eqq_ss, eqq_ll, eqq_tt, inn_l, inn_s, wipeR, freeV, mTup_t, mBool_b, mBoolS_b, mInt_i, mStr_s, mLst_l, mOpt_s, mOw_o, mOwn_o, mI1_i, mI2_i, mL1_l]
  exact h zs g2 (by omega) hzs
end K90
set_option Elab.async false
set_option linter.all false
set_option maxRecDepth 100000
set_option autoImplicit false
set_option maxHeartbeats 0
/-! printed by genh.py: the head's lists, its run -/
namespace K90
open PySem PySem.Spec PyProof.Rows L2 DL EX EXH He
abbrev RR : PySem.W.OpenRow := PySem.W.OpenLaw.row PySem.Challenge.rw_planescut_k90_whole_wrong_lines_of_arran
abbrev PP : Program := PySem.Challenge.pw_planescut_k90_whole_wrong_lines_of_arran
abbrev iniSt : Stmt := match top 1 with
  | .ClassDef _ _ _ b _ _ _ _ _ _ _ => b.getD 0 (.Pass ⟨0, 0, 0, 0⟩)
  | s => s
def fiH : FnI := some ("__init__", "PlaneError.__init__", defArgs iniSt, .stmts (defBody iniSt), defScope iniSt, mainGlobals, ["__class__"], builtinsNs)
def dH_is_whole : DefD := ⟨("is_whole", none), "is_whole", "is_whole", defArgs (top 4), defBody (top 4), defScope (top 4), [], []⟩
def dH_common_divisor : DefD := ⟨("common_divisor", none), "common_divisor", "common_divisor", defArgs (top 5), defBody (top 5), defScope (top 5), [], []⟩
def dH_lowest : DefD := ⟨("lowest", none), "lowest", "lowest", defArgs (top 6), defBody (top 6), defScope (top 6), [], []⟩
def dH_is_fraction : DefD := ⟨("is_fraction", none), "is_fraction", "is_fraction", defArgs (top 7), defBody (top 7), defScope (top 7), [], []⟩
def dH_are_fractions : DefD := ⟨("are_fractions", none), "are_fractions", "are_fractions", defArgs (top 8), defBody (top 8), defScope (top 8), [], []⟩
def dH_times : DefD := ⟨("times", none), "times", "times", defArgs (top 9), defBody (top 9), defScope (top 9), [], []⟩
def dH_is_plane_by : DefD := ⟨("is_plane_by", none), "is_plane_by", "is_plane_by", defArgs (top 14), defBody (top 14), defScope (top 14), [], []⟩
def dH_are_same : DefD := ⟨("are_same", none), "are_same", "are_same", defArgs (top 15), defBody (top 15), defScope (top 15), [], []⟩
def dH_fraction_words : DefD := ⟨("fraction_words", none), "fraction_words", "fraction_words", defArgs (top 19), defBody (top 19), defScope (top 19), [], []⟩
def dH_is_digits : DefD := ⟨("is_digits", none), "is_digits", "is_digits", defArgs (top 20), defBody (top 20), defScope (top 20), [], []⟩
def dH_fraction_told : DefD := ⟨("fraction_told", none), "fraction_told", "fraction_told", defArgs (top 21), defBody (top 21), defScope (top 21), [], []⟩
def dH_row_told : DefD := ⟨("row_told", none), "row_told", "row_told", defArgs (top 22), defBody (top 22), defScope (top 22), [], []⟩
def dH_dimensions_told : DefD := ⟨("dimensions_told", none), "dimensions_told", "dimensions_told", defArgs (top 23), defBody (top 23), defScope (top 23), [], []⟩
def dH_can_follow : DefD := ⟨("can_follow", none), "can_follow", "can_follow", defArgs (top 24), defBody (top 24), defScope (top 24), [], []⟩
def dH_wrong_in : DefD := ⟨("wrong_in", none), "wrong_in", "wrong_in", defArgs (top 25), defBody (top 25), defScope (top 25), [], []⟩
def dH_wrong_by : DefD := ⟨("wrong_by", none), "wrong_by", "wrong_by", defArgs (top 26), defBody (top 26), defScope (top 26), [], []⟩
def dH_wrong_line : DefD := ⟨("wrong_line", none), "wrong_line", "wrong_line", defArgs (top 27), defBody (top 27), defScope (top 27), [], []⟩
def dH_read_planes : DefD := ⟨("read_planes", none), "read_planes", "read_planes", defArgs (top 28), defBody (top 28), defScope (top 28), [], []⟩
def dH__law_hash : DefD := ⟨("_law_hash", none), "_law_hash", "_law_hash", defArgs (top 30), defBody (top 30), defScope (top 30), [], []⟩
def dH__law_random : DefD := ⟨("_law_random", none), "_law_random", "_law_random", defArgs (top 31), defBody (top 31), defScope (top 31), [], []⟩
def dH__law_cell : DefD := ⟨("_law_cell", none), "_law_cell", "_law_cell", defArgs (top 32), defBody (top 32), defScope (top 32), [], []⟩
def dH__law_generator : DefD := ⟨("_law_generator", none), "_law_generator", "_law_generator", defArgs (top 33), defBody (top 33), defScope (top 33), [], []⟩
def dH__law_pick : DefD := ⟨("_law_pick", none), "_law_pick", "_law_pick", defArgs (top 34), defBody (top 34), defScope (top 34), [], []⟩
def dH__law_lowest : DefD := ⟨("_law_lowest", none), "_law_lowest", "_law_lowest", defArgs (top 35), defBody (top 35), defScope (top 35), [], []⟩
def dH__law_times : DefD := ⟨("_law_times", none), "_law_times", "_law_times", defArgs (top 36), defBody (top 36), defScope (top 36), [], []⟩
def dH__law_is_fraction : DefD := ⟨("_law_is_fraction", none), "_law_is_fraction", "_law_is_fraction", defArgs (top 37), defBody (top 37), defScope (top 37), [], []⟩
def dH__law_alike : DefD := ⟨("_law_alike", none), "_law_alike", "_law_alike", defArgs (top 38), defBody (top 38), defScope (top 38), [], []⟩
def dH__law_plane : DefD := ⟨("_law_plane", none), "_law_plane", "_law_plane", defArgs (top 39), defBody (top 39), defScope (top 39), [], []⟩
def dH__law_planes : DefD := ⟨("_law_planes", none), "_law_planes", "_law_planes", defArgs (top 40), defBody (top 40), defScope (top 40), [], []⟩
def dH__law_word : DefD := ⟨("_law_word", none), "_law_word", "_law_word", defArgs (top 41), defBody (top 41), defScope (top 41), [], []⟩
def dH__law_words : DefD := ⟨("_law_words", none), "_law_words", "_law_words", defArgs (top 42), defBody (top 42), defScope (top 42), [], []⟩
def dH__law_text : DefD := ⟨("_law_text", none), "_law_text", "_law_text", defArgs (top 43), defBody (top 43), defScope (top 43), [], []⟩
def dH__law_is_row : DefD := ⟨("_law_is_row", none), "_law_is_row", "_law_is_row", defArgs (top 44), defBody (top 44), defScope (top 44), [], []⟩
def dH__law_can_put : DefD := ⟨("_law_can_put", none), "_law_can_put", "_law_can_put", defArgs (top 45), defBody (top 45), defScope (top 45), [], []⟩
def dH__law_digits : DefD := ⟨("_law_digits", none), "_law_digits", "_law_digits", defArgs (top 46), defBody (top 46), defScope (top 46), [], []⟩
def dH__law_number : DefD := ⟨("_law_number", none), "_law_number", "_law_number", defArgs (top 47), defBody (top 47), defScope (top 47), [], []⟩
def dH__law_wrong : DefD := ⟨("_law_wrong", none), "_law_wrong", "_law_wrong", defArgs (top 48), defBody (top 48), defScope (top 48), [], []⟩
def dH__law_texts : DefD := ⟨("_law_texts", none), "_law_texts", "_law_texts", defArgs (top 49), defBody (top 49), defScope (top 49), [], []⟩
def dH_law : DefD := ⟨("law", none), "law", "law", defArgs (top 50), defBody (top 50), defScope (top 50), [], []⟩
def fnH0 : List DefD := [dH_is_whole, dH_common_divisor, dH_lowest, dH_is_fraction, dH_are_fractions, dH_times, dH_is_plane_by, dH_are_same, dH_fraction_words, dH_is_digits, dH_fraction_told, dH_row_told, dH_dimensions_told, dH_can_follow, dH_wrong_in, dH_wrong_by, dH_wrong_line, dH_read_planes, dH__law_hash, dH__law_random, dH__law_cell, dH__law_generator, dH__law_pick, dH__law_lowest, dH__law_times, dH__law_is_fraction, dH__law_alike, dH__law_plane, dH__law_planes, dH__law_word]
def fnH1 : List DefD := [dH__law_words, dH__law_text, dH__law_is_row, dH__law_can_put, dH__law_digits, dH__law_number, dH__law_wrong, dH__law_texts, dH_law]
def fnH : List DefD := fnH0 ++ fnH1
def faH0 : List Fa := [.glo "is_whole", .glo "common_divisor", .glo "lowest", .glo "is_fraction", .glo "are_fractions", .glo "times", .glo "is_plane_by", .glo "are_same", .glo "fraction_words", .glo "is_digits", .glo "fraction_told", .glo "row_told", .glo "dimensions_told", .glo "can_follow", .glo "wrong_in", .glo "wrong_by", .glo "wrong_line", .glo "read_planes", .glo "_law_hash", .glo "_law_random", .glo "_law_cell", .glo "_law_generator", .glo "_law_pick", .glo "_law_lowest", .glo "_law_times", .glo "_law_is_fraction", .glo "_law_alike", .glo "_law_plane", .glo "_law_planes", .glo "_law_word"]
def faH1 : List Fa := [.glo "_law_words", .glo "_law_text", .glo "_law_is_row", .glo "_law_can_put", .glo "_law_digits", .glo "_law_number", .glo "_law_wrong", .glo "_law_texts", .glo "law", .glo "PlaneError", .glo "InvalidText", .free "ValueError", .free "abs", .free "all", .free "any", .free "bool", .free "enumerate", .free "int", .free "isinstance", .free "len", .free "list", .free "max", .free "range", .free "repr", .free "str", .free "sum", .free "super", .free "tuple", .int "MOST_DIMENSIONS" 3, .int "MOST_PLANES" 8]
def faH2 : List Fa := [.glo "NOUGHT", .str "END" "\n", .int "FIGURES" 9]
def faH : List Fa := faH0 ++ faH1 ++ faH2
def looseH0 : List Str := ["PlaneError", "InvalidText", "is_whole", "common_divisor", "lowest", "is_fraction", "are_fractions", "times", "MOST_DIMENSIONS", "MOST_PLANES", "NOUGHT", "is_plane_by", "are_same", "END", "FIGURES", "fraction_words", "is_digits", "fraction_told", "row_told", "dimensions_told", "can_follow", "wrong_in", "wrong_by", "wrong_line", "read_planes", "_law_hash", "_law_random", "_law_cell", "_law_generator", "_law_pick"]
def looseH1 : List Str := ["_law_lowest", "_law_times", "_law_is_fraction", "_law_alike", "_law_plane", "_law_planes", "_law_word", "_law_words", "_law_text", "_law_is_row", "_law_can_put", "_law_digits", "_law_number", "_law_wrong", "_law_texts"]
def looseH : List Str := looseH0 ++ looseH1
def exH (K : PySem.W.Frag) : Bool := (tupB K "NOUGHT" [.int 0, .int 1] && (exB K "InvalidText" "PlaneError" && iniBo PP K "PlaneError" "PlaneError.__init__"))
abbrev hkH : PySem.W.Hook := hookX 4 faH fnH exH "PlaneError" fiH
def obH (s : PySem.W.SharedT) : AlX := obsX 4 faH fnH exH "PlaneError" (HandSHeadRun.getT s)
theorem obH_eq (s : PySem.W.SharedT) : obH s = hkH.obs s.abs := obsX_eq (HandSHeadRun.getT_eq s)
theorem runH (w : World) : HandSHeadRun.RunEq RR (PySem.W.view RR.prog [50]) hkH obH 2000 looseH w := by
  intro os
  kernel_rfl
end K90
set_option Elab.async false
set_option linter.all false
set_option maxRecDepth 100000
set_option autoImplicit false
set_option maxHeartbeats 0
namespace K90
open PySem PySem.Spec PyProof.Rows L2 DL EX EXH He
/-- the tuple NOUGHT -/
theorem gt_of {K : PySem.W.Frag} {mg : Str → Option Value} {h : Heap} (X : K.In h) (Gn : h.Ns mainGlobals mg) {x : Str} {a b : Int} (e : tupB K x [.int a, .int b] = true) (g : mg x = some (.ref (ga K x))) : GlD K mg x (.tuple [.int a, .int b]) :=
  ⟨_, .ref (ga K x), g, rfl, fun H => rp_tup.mpr ⟨_, _, rfl, tupB_ok e H, RpL.ints [a, b]⟩⟩
end K90
set_option Elab.async false
set_option linter.all false
set_option maxRecDepth 100000
set_option autoImplicit false
set_option maxHeartbeats 0
/-! printed by gencal.py: each plain def keeps its promise -/
namespace K90
open PySem PySem.Spec PyProof.Rows L2 DL EX EXH He
open C8 (Cal)
theorem gmH {K : PySem.W.Frag} {mg : Str → Option Value} {h : Heap} (X : K.In h) (Gn : h.Ns mainGlobals mg) (c : SaysD faH fnH K) (ex : exH K = true) : Gm K mg where
  b_abs := free_ok X Gn (c.fact 42 (f := .free "abs") rfl)
  b_all := free_ok X Gn (c.fact 43 (f := .free "all") rfl)
  b_any := free_ok X Gn (c.fact 44 (f := .free "any") rfl)
  b_bool := free_ok X Gn (c.fact 45 (f := .free "bool") rfl)
  b_enumerate := free_ok X Gn (c.fact 46 (f := .free "enumerate") rfl)
  b_int := free_ok X Gn (c.fact 47 (f := .free "int") rfl)
  b_isinstance := free_ok X Gn (c.fact 48 (f := .free "isinstance") rfl)
  b_len := free_ok X Gn (c.fact 49 (f := .free "len") rfl)
  b_list := free_ok X Gn (c.fact 50 (f := .free "list") rfl)
  b_max := free_ok X Gn (c.fact 51 (f := .free "max") rfl)
  b_range := free_ok X Gn (c.fact 52 (f := .free "range") rfl)
  b_str := free_ok X Gn (c.fact 54 (f := .free "str") rfl)
  b_sum := free_ok X Gn (c.fact 55 (f := .free "sum") rfl)
  b_tuple := free_ok X Gn (c.fact 57 (f := .free "tuple") rfl)
  c_END := gl_str X Gn (c.fact 61 (f := .str "END" "\n") rfl)
  c_FIGURES := gl_int X Gn (c.fact 62 (f := .int "FIGURES" 9) rfl)
  c_MOST_DIMENSIONS := gl_int X Gn (c.fact 58 (f := .int "MOST_DIMENSIONS" 3) rfl)
  c_MOST_PLANES := gl_int X Gn (c.fact 59 (f := .int "MOST_PLANES" 8) rfl)
  c_NOUGHT := gt_of X Gn (ba ex).1 (glo_ok X Gn (c.fact 60 (f := .glo "NOUGHT") rfl))
structure Cs (P : Program) (w : World) (K : PySem.W.Frag) (mg : Str → Option Value) (base : Heap) : Prop where
  c_is_whole : Cal P w K mg base 1 "is_whole" (toSp K d_is_whole) []
  c_common_divisor : Cal P w K mg base 1 "common_divisor" (toSp K d_common_divisor) []
  c_lowest : Cal P w K mg base 2 "lowest" (toSp K d_lowest) []
  c_is_fraction : Cal P w K mg base 2 "is_fraction" (toSp K d_is_fraction) []
  c_are_fractions : Cal P w K mg base 3 "are_fractions" (toSp K d_are_fractions) []
  c_times : Cal P w K mg base 3 "times" (toSp K d_times) []
  c_is_plane_by : Cal P w K mg base 4 "is_plane_by" (toSp K d_is_plane_by) []
  c_are_same : Cal P w K mg base 4 "are_same" (toSp K d_are_same) []
  c_fraction_words : Cal P w K mg base 1 "fraction_words" (toSp K d_fraction_words) []
  c_is_digits : Cal P w K mg base 1 "is_digits" (toSp K d_is_digits) []
  c_fraction_told : Cal P w K mg base 3 "fraction_told" (toSp K d_fraction_told) []
  c_row_told : Cal P w K mg base 4 "row_told" (toSp K d_row_told) []
  c_dimensions_told : Cal P w K mg base 1 "dimensions_told" (toSp K d_dimensions_told) []
  c_can_follow : Cal P w K mg base 5 "can_follow" (toSp K d_can_follow) []
  c_wrong_in : Cal P w K mg base 6 "wrong_in" (toSp K d_wrong_in) []
  c_wrong_by : Cal P w K mg base 7 "wrong_by" (toSp K d_wrong_by) []
  c__law_hash : Cal P w K mg base 1 "_law_hash" (toSp K d__law_hash) []
  c__law_random : Cal P w K mg base 2 "_law_random" (toSp K d__law_random) []
  c__law_cell : Cal P w K mg base 1 "_law_cell" (toSp K d__law_cell) []
  c__law_generator : Cal P w K mg base 2 "_law_generator" (toSp K d__law_generator) []
  c__law_pick : Cal P w K mg base 3 "_law_pick" (toSp K d__law_pick) []
  c__law_lowest : Cal P w K mg base 1 "_law_lowest" (toSp K d__law_lowest) []
  c__law_times : Cal P w K mg base 2 "_law_times" (toSp K d__law_times) []
  c__law_is_fraction : Cal P w K mg base 2 "_law_is_fraction" (toSp K d__law_is_fraction) []
  c__law_alike : Cal P w K mg base 3 "_law_alike" (toSp K d__law_alike) []
  c__law_plane : Cal P w K mg base 3 "_law_plane" (toSp K d__law_plane) []
  c__law_planes : Cal P w K mg base 4 "_law_planes" (toSp K d__law_planes) []
  c__law_word : Cal P w K mg base 1 "_law_word" (toSp K d__law_word) []
  c__law_words : Cal P w K mg base 2 "_law_words" (toSp K d__law_words) []
  c__law_text : Cal P w K mg base 3 "_law_text" (toSp K d__law_text) []
  c__law_is_row : Cal P w K mg base 3 "_law_is_row" (toSp K d__law_is_row) []
  c__law_can_put : Cal P w K mg base 4 "_law_can_put" (toSp K d__law_can_put) []
  c__law_digits : Cal P w K mg base 1 "_law_digits" (toSp K d__law_digits) []
  c__law_number : Cal P w K mg base 2 "_law_number" (toSp K d__law_number) []
  c__law_wrong : Cal P w K mg base 5 "_law_wrong" (toSp K d__law_wrong) []
  c__law_texts : Cal P w K mg base 4 "_law_texts" (toSp K d__law_texts) []
theorem cal_is_whole {P : Program} {w : World} {K : PySem.W.Frag} {mg : Str → Option Value} {h base : Heap} (X : K.In h) (Gn : h.Ns mainGlobals mg) (c : SaysD faH fnH K) (G : Gm K mg)  : Cal P w K mg base 1 "is_whole" (toSp K d_is_whole) [] := by
  obtain ⟨fd, F⟩ := c.def_ 0 (d := dH_is_whole) rfl
  exact cal_dl (x := "is_whole") (st := top 4) (q := q_is_whole) (d := d_is_whole) (N := N_is_whole) F (glo_ok X Gn (c.fact 0 (f := .glo "is_whole") rfl)) sc_is_whole 1 rfl (fun _ _ _ _ _ _ us hl => match us, hl with | [_], _ => rfl) (fun cdv A outer s H E hr => der_is_whole G  hr) p_is_whole
theorem cal_common_divisor {P : Program} {w : World} {K : PySem.W.Frag} {mg : Str → Option Value} {h base : Heap} (X : K.In h) (Gn : h.Ns mainGlobals mg) (c : SaysD faH fnH K) (G : Gm K mg)  : Cal P w K mg base 1 "common_divisor" (toSp K d_common_divisor) [] := by
  obtain ⟨fd, F⟩ := c.def_ 1 (d := dH_common_divisor) rfl
  exact cal_dl (x := "common_divisor") (st := top 5) (q := q_common_divisor) (d := d_common_divisor) (N := N_common_divisor) F (glo_ok X Gn (c.fact 1 (f := .glo "common_divisor") rfl)) sc_common_divisor 2 rfl (fun _ _ _ _ _ _ us hl => match us, hl with | [_, _], _ => rfl) (fun cdv A outer s H E hr => der_common_divisor G  hr) p_common_divisor
theorem cal_lowest {P : Program} {w : World} {K : PySem.W.Frag} {mg : Str → Option Value} {h base : Heap} (X : K.In h) (Gn : h.Ns mainGlobals mg) (c : SaysD faH fnH K) (G : Gm K mg) (c_common_divisor : Cal P w K mg base 1 "common_divisor" (toSp K d_common_divisor) []) : Cal P w K mg base 2 "lowest" (toSp K d_lowest) [] := by
  obtain ⟨fd, F⟩ := c.def_ 2 (d := dH_lowest) rfl
  exact cal_dl (x := "lowest") (st := top 6) (q := q_lowest) (d := d_lowest) (N := N_lowest) F (glo_ok X Gn (c.fact 2 (f := .glo "lowest") rfl)) sc_lowest 2 rfl (fun _ _ _ _ _ _ us hl => match us, hl with | [_, _], _ => rfl) (fun cdv A outer s H E hr => der_lowest G c_common_divisor hr) p_lowest
theorem cal_is_fraction {P : Program} {w : World} {K : PySem.W.Frag} {mg : Str → Option Value} {h base : Heap} (X : K.In h) (Gn : h.Ns mainGlobals mg) (c : SaysD faH fnH K) (G : Gm K mg) (c_is_whole : Cal P w K mg base 1 "is_whole" (toSp K d_is_whole) []) (c_common_divisor : Cal P w K mg base 1 "common_divisor" (toSp K d_common_divisor) []) : Cal P w K mg base 2 "is_fraction" (toSp K d_is_fraction) [] := by
  obtain ⟨fd, F⟩ := c.def_ 3 (d := dH_is_fraction) rfl
  exact cal_dl (x := "is_fraction") (st := top 7) (q := q_is_fraction) (d := d_is_fraction) (N := N_is_fraction) F (glo_ok X Gn (c.fact 3 (f := .glo "is_fraction") rfl)) sc_is_fraction 1 rfl (fun _ _ _ _ _ _ us hl => match us, hl with | [_], _ => rfl) (fun cdv A outer s H E hr => der_is_fraction G c_is_whole c_common_divisor hr) p_is_fraction
theorem cal_are_fractions {P : Program} {w : World} {K : PySem.W.Frag} {mg : Str → Option Value} {h base : Heap} (X : K.In h) (Gn : h.Ns mainGlobals mg) (c : SaysD faH fnH K) (G : Gm K mg) (c_is_fraction : Cal P w K mg base 2 "is_fraction" (toSp K d_is_fraction) []) : Cal P w K mg base 3 "are_fractions" (toSp K d_are_fractions) [] := by
  obtain ⟨fd, F⟩ := c.def_ 4 (d := dH_are_fractions) rfl
  exact cal_dl (x := "are_fractions") (st := top 8) (q := q_are_fractions) (d := d_are_fractions) (N := N_are_fractions) F (glo_ok X Gn (c.fact 4 (f := .glo "are_fractions") rfl)) sc_are_fractions 2 rfl (fun _ _ _ _ _ _ us hl => match us, hl with | [_, _], _ => rfl) (fun cdv A outer s H E hr => der_are_fractions G c_is_fraction hr) p_are_fractions
theorem cal_times {P : Program} {w : World} {K : PySem.W.Frag} {mg : Str → Option Value} {h base : Heap} (X : K.In h) (Gn : h.Ns mainGlobals mg) (c : SaysD faH fnH K) (G : Gm K mg) (c_lowest : Cal P w K mg base 2 "lowest" (toSp K d_lowest) []) : Cal P w K mg base 3 "times" (toSp K d_times) [] := by
  obtain ⟨fd, F⟩ := c.def_ 5 (d := dH_times) rfl
  exact cal_dl (x := "times") (st := top 9) (q := q_times) (d := d_times) (N := N_times) F (glo_ok X Gn (c.fact 5 (f := .glo "times") rfl)) sc_times 2 rfl (fun _ _ _ _ _ _ us hl => match us, hl with | [_, _], _ => rfl) (fun cdv A outer s H E hr => der_times G c_lowest hr) p_times
theorem cal_is_plane_by {P : Program} {w : World} {K : PySem.W.Frag} {mg : Str → Option Value} {h base : Heap} (X : K.In h) (Gn : h.Ns mainGlobals mg) (c : SaysD faH fnH K) (G : Gm K mg) (c_are_fractions : Cal P w K mg base 3 "are_fractions" (toSp K d_are_fractions) []) : Cal P w K mg base 4 "is_plane_by" (toSp K d_is_plane_by) [] := by
  obtain ⟨fd, F⟩ := c.def_ 6 (d := dH_is_plane_by) rfl
  exact cal_dl (x := "is_plane_by") (st := top 14) (q := q_is_plane_by) (d := d_is_plane_by) (N := N_is_plane_by) F (glo_ok X Gn (c.fact 6 (f := .glo "is_plane_by") rfl)) sc_is_plane_by 2 rfl (fun _ _ _ _ _ _ us hl => match us, hl with | [_, _], _ => rfl) (fun cdv A outer s H E hr => der_is_plane_by G c_are_fractions hr) p_is_plane_by
theorem cal_are_same {P : Program} {w : World} {K : PySem.W.Frag} {mg : Str → Option Value} {h base : Heap} (X : K.In h) (Gn : h.Ns mainGlobals mg) (c : SaysD faH fnH K) (G : Gm K mg) (c_times : Cal P w K mg base 3 "times" (toSp K d_times) []) : Cal P w K mg base 4 "are_same" (toSp K d_are_same) [] := by
  obtain ⟨fd, F⟩ := c.def_ 7 (d := dH_are_same) rfl
  exact cal_dl (x := "are_same") (st := top 15) (q := q_are_same) (d := d_are_same) (N := N_are_same) F (glo_ok X Gn (c.fact 7 (f := .glo "are_same") rfl)) sc_are_same 2 rfl (fun _ _ _ _ _ _ us hl => match us, hl with | [_, _], _ => rfl) (fun cdv A outer s H E hr => der_are_same G c_times hr) p_are_same
theorem cal_fraction_words {P : Program} {w : World} {K : PySem.W.Frag} {mg : Str → Option Value} {h base : Heap} (X : K.In h) (Gn : h.Ns mainGlobals mg) (c : SaysD faH fnH K) (G : Gm K mg)  : Cal P w K mg base 1 "fraction_words" (toSp K d_fraction_words) [] := by
  obtain ⟨fd, F⟩ := c.def_ 8 (d := dH_fraction_words) rfl
  exact cal_dl (x := "fraction_words") (st := top 19) (q := q_fraction_words) (d := d_fraction_words) (N := N_fraction_words) F (glo_ok X Gn (c.fact 8 (f := .glo "fraction_words") rfl)) sc_fraction_words 1 rfl (fun _ _ _ _ _ _ us hl => match us, hl with | [_], _ => rfl) (fun cdv A outer s H E hr => der_fraction_words G  hr) p_fraction_words
theorem cal_is_digits {P : Program} {w : World} {K : PySem.W.Frag} {mg : Str → Option Value} {h base : Heap} (X : K.In h) (Gn : h.Ns mainGlobals mg) (c : SaysD faH fnH K) (G : Gm K mg)  : Cal P w K mg base 1 "is_digits" (toSp K d_is_digits) [] := by
  obtain ⟨fd, F⟩ := c.def_ 9 (d := dH_is_digits) rfl
  exact cal_dl (x := "is_digits") (st := top 20) (q := q_is_digits) (d := d_is_digits) (N := N_is_digits) F (glo_ok X Gn (c.fact 9 (f := .glo "is_digits") rfl)) sc_is_digits 1 rfl (fun _ _ _ _ _ _ us hl => match us, hl with | [_], _ => rfl) (fun cdv A outer s H E hr => der_is_digits G  hr) p_is_digits
theorem cal_fraction_told {P : Program} {w : World} {K : PySem.W.Frag} {mg : Str → Option Value} {h base : Heap} (X : K.In h) (Gn : h.Ns mainGlobals mg) (c : SaysD faH fnH K) (G : Gm K mg) (c_is_digits : Cal P w K mg base 1 "is_digits" (toSp K d_is_digits) []) (c_lowest : Cal P w K mg base 2 "lowest" (toSp K d_lowest) []) (c_fraction_words : Cal P w K mg base 1 "fraction_words" (toSp K d_fraction_words) []) : Cal P w K mg base 3 "fraction_told" (toSp K d_fraction_told) [] := by
  obtain ⟨fd, F⟩ := c.def_ 10 (d := dH_fraction_told) rfl
  exact cal_dl (x := "fraction_told") (st := top 21) (q := q_fraction_told) (d := d_fraction_told) (N := N_fraction_told) F (glo_ok X Gn (c.fact 10 (f := .glo "fraction_told") rfl)) sc_fraction_told 1 rfl (fun _ _ _ _ _ _ us hl => match us, hl with | [_], _ => rfl) (fun cdv A outer s H E hr => der_fraction_told G c_is_digits c_lowest c_fraction_words hr) p_fraction_told
theorem cal_row_told {P : Program} {w : World} {K : PySem.W.Frag} {mg : Str → Option Value} {h base : Heap} (X : K.In h) (Gn : h.Ns mainGlobals mg) (c : SaysD faH fnH K) (G : Gm K mg) (c_fraction_told : Cal P w K mg base 3 "fraction_told" (toSp K d_fraction_told) []) : Cal P w K mg base 4 "row_told" (toSp K d_row_told) [] := by
  obtain ⟨fd, F⟩ := c.def_ 11 (d := dH_row_told) rfl
  exact cal_dl (x := "row_told") (st := top 22) (q := q_row_told) (d := d_row_told) (N := N_row_told) F (glo_ok X Gn (c.fact 11 (f := .glo "row_told") rfl)) sc_row_told 1 rfl (fun _ _ _ _ _ _ us hl => match us, hl with | [_], _ => rfl) (fun cdv A outer s H E hr => der_row_told G c_fraction_told hr) p_row_told
theorem cal_dimensions_told {P : Program} {w : World} {K : PySem.W.Frag} {mg : Str → Option Value} {h base : Heap} (X : K.In h) (Gn : h.Ns mainGlobals mg) (c : SaysD faH fnH K) (G : Gm K mg)  : Cal P w K mg base 1 "dimensions_told" (toSp K d_dimensions_told) [] := by
  obtain ⟨fd, F⟩ := c.def_ 12 (d := dH_dimensions_told) rfl
  exact cal_dl (x := "dimensions_told") (st := top 23) (q := q_dimensions_told) (d := d_dimensions_told) (N := N_dimensions_told) F (glo_ok X Gn (c.fact 12 (f := .glo "dimensions_told") rfl)) sc_dimensions_told 1 rfl (fun _ _ _ _ _ _ us hl => match us, hl with | [_], _ => rfl) (fun cdv A outer s H E hr => der_dimensions_told G  hr) p_dimensions_told
theorem cal_can_follow {P : Program} {w : World} {K : PySem.W.Frag} {mg : Str → Option Value} {h base : Heap} (X : K.In h) (Gn : h.Ns mainGlobals mg) (c : SaysD faH fnH K) (G : Gm K mg) (c_is_plane_by : Cal P w K mg base 4 "is_plane_by" (toSp K d_is_plane_by) []) (c_are_same : Cal P w K mg base 4 "are_same" (toSp K d_are_same) []) : Cal P w K mg base 5 "can_follow" (toSp K d_can_follow) [] := by
  obtain ⟨fd, F⟩ := c.def_ 13 (d := dH_can_follow) rfl
  exact cal_dl (x := "can_follow") (st := top 24) (q := q_can_follow) (d := d_can_follow) (N := N_can_follow) F (glo_ok X Gn (c.fact 13 (f := .glo "can_follow") rfl)) sc_can_follow 3 rfl (fun _ _ _ _ _ _ us hl => match us, hl with | [_, _, _], _ => rfl) (fun cdv A outer s H E hr => der_can_follow G c_is_plane_by c_are_same hr) p_can_follow
theorem cal_wrong_in {P : Program} {w : World} {K : PySem.W.Frag} {mg : Str → Option Value} {h base : Heap} (X : K.In h) (Gn : h.Ns mainGlobals mg) (c : SaysD faH fnH K) (G : Gm K mg) (c_dimensions_told : Cal P w K mg base 1 "dimensions_told" (toSp K d_dimensions_told) []) (c_row_told : Cal P w K mg base 4 "row_told" (toSp K d_row_told) []) (c_can_follow : Cal P w K mg base 5 "can_follow" (toSp K d_can_follow) []) : Cal P w K mg base 6 "wrong_in" (toSp K d_wrong_in) [] := by
  obtain ⟨fd, F⟩ := c.def_ 14 (d := dH_wrong_in) rfl
  exact cal_dl (x := "wrong_in") (st := top 25) (q := q_wrong_in) (d := d_wrong_in) (N := N_wrong_in) F (glo_ok X Gn (c.fact 14 (f := .glo "wrong_in") rfl)) sc_wrong_in 1 rfl (fun _ _ _ _ _ _ us hl => match us, hl with | [_], _ => rfl) (fun cdv A outer s H E hr => der_wrong_in G c_dimensions_told c_row_told c_can_follow hr) p_wrong_in
theorem cal_wrong_by {P : Program} {w : World} {K : PySem.W.Frag} {mg : Str → Option Value} {h base : Heap} (X : K.In h) (Gn : h.Ns mainGlobals mg) (c : SaysD faH fnH K) (G : Gm K mg) (c_wrong_in : Cal P w K mg base 6 "wrong_in" (toSp K d_wrong_in) []) : Cal P w K mg base 7 "wrong_by" (toSp K d_wrong_by) [] := by
  obtain ⟨fd, F⟩ := c.def_ 15 (d := dH_wrong_by) rfl
  exact cal_dl (x := "wrong_by") (st := top 26) (q := q_wrong_by) (d := d_wrong_by) (N := N_wrong_by) F (glo_ok X Gn (c.fact 15 (f := .glo "wrong_by") rfl)) sc_wrong_by 1 rfl (fun _ _ _ _ _ _ us hl => match us, hl with | [_], _ => rfl) (fun cdv A outer s H E hr => der_wrong_by G c_wrong_in hr) p_wrong_by
theorem cal__law_hash {P : Program} {w : World} {K : PySem.W.Frag} {mg : Str → Option Value} {h base : Heap} (X : K.In h) (Gn : h.Ns mainGlobals mg) (c : SaysD faH fnH K) (G : Gm K mg)  : Cal P w K mg base 1 "_law_hash" (toSp K d__law_hash) [] := by
  obtain ⟨fd, F⟩ := c.def_ 18 (d := dH__law_hash) rfl
  exact cal_dl (x := "_law_hash") (st := top 30) (q := q__law_hash) (d := d__law_hash) (N := N__law_hash) F (glo_ok X Gn (c.fact 18 (f := .glo "_law_hash") rfl)) sc__law_hash 2 rfl (fun _ _ _ _ _ _ us hl => match us, hl with | [_, _], _ => rfl) (fun cdv A outer s H E hr => der__law_hash G  hr) p__law_hash
theorem cal__law_random {P : Program} {w : World} {K : PySem.W.Frag} {mg : Str → Option Value} {h base : Heap} (X : K.In h) (Gn : h.Ns mainGlobals mg) (c : SaysD faH fnH K) (G : Gm K mg) (c__law_hash : Cal P w K mg base 1 "_law_hash" (toSp K d__law_hash) []) : Cal P w K mg base 2 "_law_random" (toSp K d__law_random) [] := by
  obtain ⟨fd, F⟩ := c.def_ 19 (d := dH__law_random) rfl
  exact cal_dl (x := "_law_random") (st := top 31) (q := q__law_random) (d := d__law_random) (N := N__law_random) F (glo_ok X Gn (c.fact 19 (f := .glo "_law_random") rfl)) sc__law_random 2 rfl (fun _ _ _ _ _ _ us hl => match us, hl with | [_, _], _ => rfl) (fun cdv A outer s H E hr => der__law_random G c__law_hash hr) p__law_random
theorem cal__law_cell {P : Program} {w : World} {K : PySem.W.Frag} {mg : Str → Option Value} {h base : Heap} (X : K.In h) (Gn : h.Ns mainGlobals mg) (c : SaysD faH fnH K) (G : Gm K mg)  : Cal P w K mg base 1 "_law_cell" (toSp K d__law_cell) [] := by
  obtain ⟨fd, F⟩ := c.def_ 20 (d := dH__law_cell) rfl
  exact cal_dl (x := "_law_cell") (st := top 32) (q := q__law_cell) (d := d__law_cell) (N := N__law_cell) F (glo_ok X Gn (c.fact 20 (f := .glo "_law_cell") rfl)) sc__law_cell 2 rfl (fun _ _ _ _ _ _ us hl => match us, hl with | [_, _], _ => rfl) (fun cdv A outer s H E hr => der__law_cell G  hr) p__law_cell
theorem cal__law_generator {P : Program} {w : World} {K : PySem.W.Frag} {mg : Str → Option Value} {h base : Heap} (X : K.In h) (Gn : h.Ns mainGlobals mg) (c : SaysD faH fnH K) (G : Gm K mg) (c__law_cell : Cal P w K mg base 1 "_law_cell" (toSp K d__law_cell) []) : Cal P w K mg base 2 "_law_generator" (toSp K d__law_generator) [] := by
  obtain ⟨fd, F⟩ := c.def_ 21 (d := dH__law_generator) rfl
  exact cal_dl (x := "_law_generator") (st := top 33) (q := q__law_generator) (d := d__law_generator) (N := N__law_generator) F (glo_ok X Gn (c.fact 21 (f := .glo "_law_generator") rfl)) sc__law_generator 2 rfl (fun _ _ _ _ _ _ us hl => match us, hl with | [_, _], _ => rfl) (fun cdv A outer s H E hr => der__law_generator G c__law_cell hr) p__law_generator
theorem cal__law_pick {P : Program} {w : World} {K : PySem.W.Frag} {mg : Str → Option Value} {h base : Heap} (X : K.In h) (Gn : h.Ns mainGlobals mg) (c : SaysD faH fnH K) (G : Gm K mg) (c__law_random : Cal P w K mg base 2 "_law_random" (toSp K d__law_random) []) : Cal P w K mg base 3 "_law_pick" (toSp K d__law_pick) [] := by
  obtain ⟨fd, F⟩ := c.def_ 22 (d := dH__law_pick) rfl
  exact cal_dl (x := "_law_pick") (st := top 34) (q := q__law_pick) (d := d__law_pick) (N := N__law_pick) F (glo_ok X Gn (c.fact 22 (f := .glo "_law_pick") rfl)) sc__law_pick 2 rfl (fun _ _ _ _ _ _ us hl => match us, hl with | [_, _], _ => rfl) (fun cdv A outer s H E hr => der__law_pick G c__law_random hr) p__law_pick
theorem cal__law_lowest {P : Program} {w : World} {K : PySem.W.Frag} {mg : Str → Option Value} {h base : Heap} (X : K.In h) (Gn : h.Ns mainGlobals mg) (c : SaysD faH fnH K) (G : Gm K mg)  : Cal P w K mg base 1 "_law_lowest" (toSp K d__law_lowest) [] := by
  obtain ⟨fd, F⟩ := c.def_ 23 (d := dH__law_lowest) rfl
  exact cal_dl (x := "_law_lowest") (st := top 35) (q := q__law_lowest) (d := d__law_lowest) (N := N__law_lowest) F (glo_ok X Gn (c.fact 23 (f := .glo "_law_lowest") rfl)) sc__law_lowest 2 rfl (fun _ _ _ _ _ _ us hl => match us, hl with | [_, _], _ => rfl) (fun cdv A outer s H E hr => der__law_lowest G  hr) p__law_lowest
theorem cal__law_times {P : Program} {w : World} {K : PySem.W.Frag} {mg : Str → Option Value} {h base : Heap} (X : K.In h) (Gn : h.Ns mainGlobals mg) (c : SaysD faH fnH K) (G : Gm K mg) (c__law_lowest : Cal P w K mg base 1 "_law_lowest" (toSp K d__law_lowest) []) : Cal P w K mg base 2 "_law_times" (toSp K d__law_times) [] := by
  obtain ⟨fd, F⟩ := c.def_ 24 (d := dH__law_times) rfl
  exact cal_dl (x := "_law_times") (st := top 36) (q := q__law_times) (d := d__law_times) (N := N__law_times) F (glo_ok X Gn (c.fact 24 (f := .glo "_law_times") rfl)) sc__law_times 2 rfl (fun _ _ _ _ _ _ us hl => match us, hl with | [_, _], _ => rfl) (fun cdv A outer s H E hr => der__law_times G c__law_lowest hr) p__law_times
theorem cal__law_is_fraction {P : Program} {w : World} {K : PySem.W.Frag} {mg : Str → Option Value} {h base : Heap} (X : K.In h) (Gn : h.Ns mainGlobals mg) (c : SaysD faH fnH K) (G : Gm K mg) (c__law_lowest : Cal P w K mg base 1 "_law_lowest" (toSp K d__law_lowest) []) : Cal P w K mg base 2 "_law_is_fraction" (toSp K d__law_is_fraction) [] := by
  obtain ⟨fd, F⟩ := c.def_ 25 (d := dH__law_is_fraction) rfl
  exact cal_dl (x := "_law_is_fraction") (st := top 37) (q := q__law_is_fraction) (d := d__law_is_fraction) (N := N__law_is_fraction) F (glo_ok X Gn (c.fact 25 (f := .glo "_law_is_fraction") rfl)) sc__law_is_fraction 1 rfl (fun _ _ _ _ _ _ us hl => match us, hl with | [_], _ => rfl) (fun cdv A outer s H E hr => der__law_is_fraction G c__law_lowest hr) p__law_is_fraction
theorem cal__law_alike {P : Program} {w : World} {K : PySem.W.Frag} {mg : Str → Option Value} {h base : Heap} (X : K.In h) (Gn : h.Ns mainGlobals mg) (c : SaysD faH fnH K) (G : Gm K mg) (c__law_times : Cal P w K mg base 2 "_law_times" (toSp K d__law_times) []) : Cal P w K mg base 3 "_law_alike" (toSp K d__law_alike) [] := by
  obtain ⟨fd, F⟩ := c.def_ 26 (d := dH__law_alike) rfl
  exact cal_dl (x := "_law_alike") (st := top 38) (q := q__law_alike) (d := d__law_alike) (N := N__law_alike) F (glo_ok X Gn (c.fact 26 (f := .glo "_law_alike") rfl)) sc__law_alike 2 rfl (fun _ _ _ _ _ _ us hl => match us, hl with | [_, _], _ => rfl) (fun cdv A outer s H E hr => der__law_alike G c__law_times hr) p__law_alike
theorem cal__law_plane {P : Program} {w : World} {K : PySem.W.Frag} {mg : Str → Option Value} {h base : Heap} (X : K.In h) (Gn : h.Ns mainGlobals mg) (c : SaysD faH fnH K) (G : Gm K mg) (c__law_lowest : Cal P w K mg base 1 "_law_lowest" (toSp K d__law_lowest) []) (c__law_random : Cal P w K mg base 2 "_law_random" (toSp K d__law_random) []) : Cal P w K mg base 3 "_law_plane" (toSp K d__law_plane) [] := by
  obtain ⟨fd, F⟩ := c.def_ 27 (d := dH__law_plane) rfl
  exact cal_dl (x := "_law_plane") (st := top 39) (q := q__law_plane) (d := d__law_plane) (N := N__law_plane) F (glo_ok X Gn (c.fact 27 (f := .glo "_law_plane") rfl)) sc__law_plane 2 rfl (fun _ _ _ _ _ _ us hl => match us, hl with | [_, _], _ => rfl) (fun cdv A outer s H E hr => der__law_plane G c__law_lowest c__law_random hr) p__law_plane
theorem cal__law_planes {P : Program} {w : World} {K : PySem.W.Frag} {mg : Str → Option Value} {h base : Heap} (X : K.In h) (Gn : h.Ns mainGlobals mg) (c : SaysD faH fnH K) (G : Gm K mg) (c__law_pick : Cal P w K mg base 3 "_law_pick" (toSp K d__law_pick) []) (c__law_random : Cal P w K mg base 2 "_law_random" (toSp K d__law_random) []) (c__law_plane : Cal P w K mg base 3 "_law_plane" (toSp K d__law_plane) []) (c__law_alike : Cal P w K mg base 3 "_law_alike" (toSp K d__law_alike) []) : Cal P w K mg base 4 "_law_planes" (toSp K d__law_planes) [] := by
  obtain ⟨fd, F⟩ := c.def_ 28 (d := dH__law_planes) rfl
  exact cal_dl (x := "_law_planes") (st := top 40) (q := q__law_planes) (d := d__law_planes) (N := N__law_planes) F (glo_ok X Gn (c.fact 28 (f := .glo "_law_planes") rfl)) sc__law_planes 1 rfl (fun _ _ _ _ _ _ us hl => match us, hl with | [_], _ => rfl) (fun cdv A outer s H E hr => der__law_planes G c__law_pick c__law_random c__law_plane c__law_alike hr) p__law_planes
theorem cal__law_word {P : Program} {w : World} {K : PySem.W.Frag} {mg : Str → Option Value} {h base : Heap} (X : K.In h) (Gn : h.Ns mainGlobals mg) (c : SaysD faH fnH K) (G : Gm K mg)  : Cal P w K mg base 1 "_law_word" (toSp K d__law_word) [] := by
  obtain ⟨fd, F⟩ := c.def_ 29 (d := dH__law_word) rfl
  exact cal_dl (x := "_law_word") (st := top 41) (q := q__law_word) (d := d__law_word) (N := N__law_word) F (glo_ok X Gn (c.fact 29 (f := .glo "_law_word") rfl)) sc__law_word 1 rfl (fun _ _ _ _ _ _ us hl => match us, hl with | [_], _ => rfl) (fun cdv A outer s H E hr => der__law_word G  hr) p__law_word
theorem cal__law_words {P : Program} {w : World} {K : PySem.W.Frag} {mg : Str → Option Value} {h base : Heap} (X : K.In h) (Gn : h.Ns mainGlobals mg) (c : SaysD faH fnH K) (G : Gm K mg) (c__law_word : Cal P w K mg base 1 "_law_word" (toSp K d__law_word) []) : Cal P w K mg base 2 "_law_words" (toSp K d__law_words) [] := by
  obtain ⟨fd, F⟩ := c.def_ 30 (d := dH__law_words) rfl
  exact cal_dl (x := "_law_words") (st := top 42) (q := q__law_words) (d := d__law_words) (N := N__law_words) F (glo_ok X Gn (c.fact 30 (f := .glo "_law_words") rfl)) sc__law_words 1 rfl (fun _ _ _ _ _ _ us hl => match us, hl with | [_], _ => rfl) (fun cdv A outer s H E hr => der__law_words G c__law_word hr) p__law_words
theorem cal__law_text {P : Program} {w : World} {K : PySem.W.Frag} {mg : Str → Option Value} {h base : Heap} (X : K.In h) (Gn : h.Ns mainGlobals mg) (c : SaysD faH fnH K) (G : Gm K mg) (c__law_words : Cal P w K mg base 2 "_law_words" (toSp K d__law_words) []) : Cal P w K mg base 3 "_law_text" (toSp K d__law_text) [] := by
  obtain ⟨fd, F⟩ := c.def_ 31 (d := dH__law_text) rfl
  exact cal_dl (x := "_law_text") (st := top 43) (q := q__law_text) (d := d__law_text) (N := N__law_text) F (glo_ok X Gn (c.fact 31 (f := .glo "_law_text") rfl)) sc__law_text 1 rfl (fun _ _ _ _ _ _ us hl => match us, hl with | [_], _ => rfl) (fun cdv A outer s H E hr => der__law_text G c__law_words hr) p__law_text
theorem cal__law_is_row {P : Program} {w : World} {K : PySem.W.Frag} {mg : Str → Option Value} {h base : Heap} (X : K.In h) (Gn : h.Ns mainGlobals mg) (c : SaysD faH fnH K) (G : Gm K mg) (c__law_is_fraction : Cal P w K mg base 2 "_law_is_fraction" (toSp K d__law_is_fraction) []) : Cal P w K mg base 3 "_law_is_row" (toSp K d__law_is_row) [] := by
  obtain ⟨fd, F⟩ := c.def_ 32 (d := dH__law_is_row) rfl
  exact cal_dl (x := "_law_is_row") (st := top 44) (q := q__law_is_row) (d := d__law_is_row) (N := N__law_is_row) F (glo_ok X Gn (c.fact 32 (f := .glo "_law_is_row") rfl)) sc__law_is_row 2 rfl (fun _ _ _ _ _ _ us hl => match us, hl with | [_, _], _ => rfl) (fun cdv A outer s H E hr => der__law_is_row G c__law_is_fraction hr) p__law_is_row
theorem cal__law_can_put {P : Program} {w : World} {K : PySem.W.Frag} {mg : Str → Option Value} {h base : Heap} (X : K.In h) (Gn : h.Ns mainGlobals mg) (c : SaysD faH fnH K) (G : Gm K mg) (c__law_is_row : Cal P w K mg base 3 "_law_is_row" (toSp K d__law_is_row) []) (c__law_alike : Cal P w K mg base 3 "_law_alike" (toSp K d__law_alike) []) : Cal P w K mg base 4 "_law_can_put" (toSp K d__law_can_put) [] := by
  obtain ⟨fd, F⟩ := c.def_ 33 (d := dH__law_can_put) rfl
  exact cal_dl (x := "_law_can_put") (st := top 45) (q := q__law_can_put) (d := d__law_can_put) (N := N__law_can_put) F (glo_ok X Gn (c.fact 33 (f := .glo "_law_can_put") rfl)) sc__law_can_put 2 rfl (fun _ _ _ _ _ _ us hl => match us, hl with | [_, _], _ => rfl) (fun cdv A outer s H E hr => der__law_can_put G c__law_is_row c__law_alike hr) p__law_can_put
theorem cal__law_digits {P : Program} {w : World} {K : PySem.W.Frag} {mg : Str → Option Value} {h base : Heap} (X : K.In h) (Gn : h.Ns mainGlobals mg) (c : SaysD faH fnH K) (G : Gm K mg)  : Cal P w K mg base 1 "_law_digits" (toSp K d__law_digits) [] := by
  obtain ⟨fd, F⟩ := c.def_ 34 (d := dH__law_digits) rfl
  exact cal_dl (x := "_law_digits") (st := top 46) (q := q__law_digits) (d := d__law_digits) (N := N__law_digits) F (glo_ok X Gn (c.fact 34 (f := .glo "_law_digits") rfl)) sc__law_digits 1 rfl (fun _ _ _ _ _ _ us hl => match us, hl with | [_], _ => rfl) (fun cdv A outer s H E hr => der__law_digits G  hr) p__law_digits
theorem cal__law_number {P : Program} {w : World} {K : PySem.W.Frag} {mg : Str → Option Value} {h base : Heap} (X : K.In h) (Gn : h.Ns mainGlobals mg) (c : SaysD faH fnH K) (G : Gm K mg) (c__law_digits : Cal P w K mg base 1 "_law_digits" (toSp K d__law_digits) []) (c__law_lowest : Cal P w K mg base 1 "_law_lowest" (toSp K d__law_lowest) []) (c__law_word : Cal P w K mg base 1 "_law_word" (toSp K d__law_word) []) : Cal P w K mg base 2 "_law_number" (toSp K d__law_number) [] := by
  obtain ⟨fd, F⟩ := c.def_ 35 (d := dH__law_number) rfl
  exact cal_dl (x := "_law_number") (st := top 47) (q := q__law_number) (d := d__law_number) (N := N__law_number) F (glo_ok X Gn (c.fact 35 (f := .glo "_law_number") rfl)) sc__law_number 1 rfl (fun _ _ _ _ _ _ us hl => match us, hl with | [_], _ => rfl) (fun cdv A outer s H E hr => der__law_number G c__law_digits c__law_lowest c__law_word hr) p__law_number
theorem cal__law_wrong {P : Program} {w : World} {K : PySem.W.Frag} {mg : Str → Option Value} {h base : Heap} (X : K.In h) (Gn : h.Ns mainGlobals mg) (c : SaysD faH fnH K) (G : Gm K mg) (c__law_number : Cal P w K mg base 2 "_law_number" (toSp K d__law_number) []) (c__law_can_put : Cal P w K mg base 4 "_law_can_put" (toSp K d__law_can_put) []) : Cal P w K mg base 5 "_law_wrong" (toSp K d__law_wrong) [] := by
  obtain ⟨fd, F⟩ := c.def_ 36 (d := dH__law_wrong) rfl
  exact cal_dl (x := "_law_wrong") (st := top 48) (q := q__law_wrong) (d := d__law_wrong) (N := N__law_wrong) F (glo_ok X Gn (c.fact 36 (f := .glo "_law_wrong") rfl)) sc__law_wrong 1 rfl (fun _ _ _ _ _ _ us hl => match us, hl with | [_], _ => rfl) (fun cdv A outer s H E hr => der__law_wrong G c__law_number c__law_can_put hr) p__law_wrong
theorem cal__law_texts {P : Program} {w : World} {K : PySem.W.Frag} {mg : Str → Option Value} {h base : Heap} (X : K.In h) (Gn : h.Ns mainGlobals mg) (c : SaysD faH fnH K) (G : Gm K mg) (c__law_text : Cal P w K mg base 3 "_law_text" (toSp K d__law_text) []) (c__law_random : Cal P w K mg base 2 "_law_random" (toSp K d__law_random) []) (c__law_words : Cal P w K mg base 2 "_law_words" (toSp K d__law_words) []) (c__law_times : Cal P w K mg base 2 "_law_times" (toSp K d__law_times) []) (c__law_pick : Cal P w K mg base 3 "_law_pick" (toSp K d__law_pick) []) : Cal P w K mg base 4 "_law_texts" (toSp K d__law_texts) [] := by
  obtain ⟨fd, F⟩ := c.def_ 37 (d := dH__law_texts) rfl
  exact cal_dl (x := "_law_texts") (st := top 49) (q := q__law_texts) (d := d__law_texts) (N := N__law_texts) F (glo_ok X Gn (c.fact 37 (f := .glo "_law_texts") rfl)) sc__law_texts 2 rfl (fun _ _ _ _ _ _ us hl => match us, hl with | [_, _], _ => rfl) (fun cdv A outer s H E hr => der__law_texts G c__law_text c__law_random c__law_words c__law_times c__law_pick hr) p__law_texts
theorem csH {P : Program} {w : World} {K : PySem.W.Frag} {mg : Str → Option Value} {h base : Heap} (X : K.In h) (Gn : h.Ns mainGlobals mg) (c : SaysD faH fnH K) (G : Gm K mg) : Cs P w K mg base := by
  have c_is_whole : Cal P w K mg base 1 "is_whole" (toSp K d_is_whole) [] := cal_is_whole X Gn c G 
  have c_common_divisor : Cal P w K mg base 1 "common_divisor" (toSp K d_common_divisor) [] := cal_common_divisor X Gn c G 
  have c_lowest : Cal P w K mg base 2 "lowest" (toSp K d_lowest) [] := cal_lowest X Gn c G c_common_divisor
  have c_is_fraction : Cal P w K mg base 2 "is_fraction" (toSp K d_is_fraction) [] := cal_is_fraction X Gn c G c_is_whole c_common_divisor
  have c_are_fractions : Cal P w K mg base 3 "are_fractions" (toSp K d_are_fractions) [] := cal_are_fractions X Gn c G c_is_fraction
  have c_times : Cal P w K mg base 3 "times" (toSp K d_times) [] := cal_times X Gn c G c_lowest
  have c_is_plane_by : Cal P w K mg base 4 "is_plane_by" (toSp K d_is_plane_by) [] := cal_is_plane_by X Gn c G c_are_fractions
  have c_are_same : Cal P w K mg base 4 "are_same" (toSp K d_are_same) [] := cal_are_same X Gn c G c_times
  have c_fraction_words : Cal P w K mg base 1 "fraction_words" (toSp K d_fraction_words) [] := cal_fraction_words X Gn c G 
  have c_is_digits : Cal P w K mg base 1 "is_digits" (toSp K d_is_digits) [] := cal_is_digits X Gn c G 
  have c_fraction_told : Cal P w K mg base 3 "fraction_told" (toSp K d_fraction_told) [] := cal_fraction_told X Gn c G c_is_digits c_lowest c_fraction_words
  have c_row_told : Cal P w K mg base 4 "row_told" (toSp K d_row_told) [] := cal_row_told X Gn c G c_fraction_told
  have c_dimensions_told : Cal P w K mg base 1 "dimensions_told" (toSp K d_dimensions_told) [] := cal_dimensions_told X Gn c G 
  have c_can_follow : Cal P w K mg base 5 "can_follow" (toSp K d_can_follow) [] := cal_can_follow X Gn c G c_is_plane_by c_are_same
  have c_wrong_in : Cal P w K mg base 6 "wrong_in" (toSp K d_wrong_in) [] := cal_wrong_in X Gn c G c_dimensions_told c_row_told c_can_follow
  have c_wrong_by : Cal P w K mg base 7 "wrong_by" (toSp K d_wrong_by) [] := cal_wrong_by X Gn c G c_wrong_in
  have c__law_hash : Cal P w K mg base 1 "_law_hash" (toSp K d__law_hash) [] := cal__law_hash X Gn c G 
  have c__law_random : Cal P w K mg base 2 "_law_random" (toSp K d__law_random) [] := cal__law_random X Gn c G c__law_hash
  have c__law_cell : Cal P w K mg base 1 "_law_cell" (toSp K d__law_cell) [] := cal__law_cell X Gn c G 
  have c__law_generator : Cal P w K mg base 2 "_law_generator" (toSp K d__law_generator) [] := cal__law_generator X Gn c G c__law_cell
  have c__law_pick : Cal P w K mg base 3 "_law_pick" (toSp K d__law_pick) [] := cal__law_pick X Gn c G c__law_random
  have c__law_lowest : Cal P w K mg base 1 "_law_lowest" (toSp K d__law_lowest) [] := cal__law_lowest X Gn c G 
  have c__law_times : Cal P w K mg base 2 "_law_times" (toSp K d__law_times) [] := cal__law_times X Gn c G c__law_lowest
  have c__law_is_fraction : Cal P w K mg base 2 "_law_is_fraction" (toSp K d__law_is_fraction) [] := cal__law_is_fraction X Gn c G c__law_lowest
  have c__law_alike : Cal P w K mg base 3 "_law_alike" (toSp K d__law_alike) [] := cal__law_alike X Gn c G c__law_times
  have c__law_plane : Cal P w K mg base 3 "_law_plane" (toSp K d__law_plane) [] := cal__law_plane X Gn c G c__law_lowest c__law_random
  have c__law_planes : Cal P w K mg base 4 "_law_planes" (toSp K d__law_planes) [] := cal__law_planes X Gn c G c__law_pick c__law_random c__law_plane c__law_alike
  have c__law_word : Cal P w K mg base 1 "_law_word" (toSp K d__law_word) [] := cal__law_word X Gn c G 
  have c__law_words : Cal P w K mg base 2 "_law_words" (toSp K d__law_words) [] := cal__law_words X Gn c G c__law_word
  have c__law_text : Cal P w K mg base 3 "_law_text" (toSp K d__law_text) [] := cal__law_text X Gn c G c__law_words
  have c__law_is_row : Cal P w K mg base 3 "_law_is_row" (toSp K d__law_is_row) [] := cal__law_is_row X Gn c G c__law_is_fraction
  have c__law_can_put : Cal P w K mg base 4 "_law_can_put" (toSp K d__law_can_put) [] := cal__law_can_put X Gn c G c__law_is_row c__law_alike
  have c__law_digits : Cal P w K mg base 1 "_law_digits" (toSp K d__law_digits) [] := cal__law_digits X Gn c G 
  have c__law_number : Cal P w K mg base 2 "_law_number" (toSp K d__law_number) [] := cal__law_number X Gn c G c__law_digits c__law_lowest c__law_word
  have c__law_wrong : Cal P w K mg base 5 "_law_wrong" (toSp K d__law_wrong) [] := cal__law_wrong X Gn c G c__law_number c__law_can_put
  have c__law_texts : Cal P w K mg base 4 "_law_texts" (toSp K d__law_texts) [] := cal__law_texts X Gn c G c__law_text c__law_random c__law_words c__law_times c__law_pick
  exact ⟨c_is_whole, c_common_divisor, c_lowest, c_is_fraction, c_are_fractions, c_times, c_is_plane_by, c_are_same, c_fraction_words, c_is_digits, c_fraction_told, c_row_told, c_dimensions_told, c_can_follow, c_wrong_in, c_wrong_by, c__law_hash, c__law_random, c__law_cell, c__law_generator, c__law_pick, c__law_lowest, c__law_times, c__law_is_fraction, c__law_alike, c__law_plane, c__law_planes, c__law_word, c__law_words, c__law_text, c__law_is_row, c__law_can_put, c__law_digits, c__law_number, c__law_wrong, c__law_texts⟩
end K90
set_option Elab.async false
set_option linter.all false
set_option maxRecDepth 100000
set_option autoImplicit false
namespace K90
open PySem PySem.Spec PyProof.Rows L2 DL EX
/-! ### promises of the defs that may raise, where they don't -/
abbrev d_wrong_line : DSp := d_wrong_by
def d_read_planes : DSp := fun as R => ∃ t : Str, as = [.dt (.str t)] ∧ TxOk t ∧ wrongBy t = none ∧ ∀ d, ret d R
end K90
set_option Elab.async false
set_option linter.all false
set_option maxRecDepth 100000
set_option autoImplicit false
/-! printed by gen.py: scopes, q-terms, derivations -/
namespace K90
open PySem PySem.Spec PyProof.Rows L2 DL EX EXH
open C8 (Cal)
abbrev N_wrong_line : List Str := ["text"]
abbrev P_wrong_line : List Str := ["text"]
theorem sc_wrong_line : FnScope N_wrong_line P_wrong_line (defScope (top 27)) := ⟨rfl, rfl, rfl, by decide +kernel, rfl, by decide +kernel, by decide +kernel⟩
def q_wrong_line : QS := qSeq (qIfS (qNot (qTest (qIsi "str" (qVar 0)))) (qBad) (qNext)) (qRet (qCall d_wrong_by (qCons (qVar 0) (qNil))))
theorem der_wrong_line {P : Program} {w : World} {K : PySem.W.Frag} {mg : Str → Option Value} {base : Heap} (G : Gm K mg) (c_wrong_by : Cal P w K mg base 7 "wrong_by" (toSp K d_wrong_by) []) {C D : Addr} (Z : Rz P w K mg base "InvalidText" C D) {f : Addr} {cdv : Value} {A : Around} {outer : List Env} {s : Shared} {H : Hp} {E : XK} (hr : Room 7 (A.deeper (envOfC "wrong_line" (defScope (top 27)) s.heap.objs.size f cdv))) : ∃ t, DSs (cxOf CX0 P w K mg base N_wrong_line "wrong_line" (defScope (top 27)) f cdv A outer s H E).nox (defBody (top 27)) t q_wrong_line := ⟨_, dss_cons (ds_if (dt_not (dt_val (dq_isi (n := "str") rfl G.b_isinstance rfl G.b_str (by decide +kernel) (dq_var 0 (pv 0))))) (dss_one (ds_bad (ps_rz Z rfl hr (by decide) rfl takes0 (pv 0)))) (dss_nil)) (dss_one (ds_ret (dq_c c_wrong_by hr (by decide) rfl (da_cons (dq_var 0 (pv 0)) (da_nil)))))⟩
abbrev N_read_planes : List Str := ["text", "lines", "line"]
abbrev P_read_planes : List Str := ["text"]
theorem sc_read_planes : FnScope N_read_planes P_read_planes (defScope (top 28)) := ⟨rfl, rfl, rfl, by decide +kernel, rfl, by decide +kernel, by decide +kernel⟩
def q_read_planes : QS := qSeq (qIfS (qOr (qNot (qTest (qIsi "str" (qVar 0)))) (qTest (q2 kNotN (qCall d_wrong_by (qCons (qVar 0) (qNil))) (qC .none)))) (qBad) (qNext)) (qSeq (qAsg (qSplit (qVar 0) (qC (.str "\n"))) 1) (qRet (qTup (qCons (qC (.str "planes")) (qCons (qCall d_dimensions_told (qCons (q2 ixq (qVar 1) (qC (.int 0))) (qNil))) (qCons (qLc (qIL (qSl (qVar 1) (qPart (qC (.int 1))) (qPart (q1 kNeg (qC (.int 1)))))) (qgN 2) (qYes) (qCall d_row_told (qCons (qVar 2) (qNil))) [2]) (qNil)))))))
theorem der_read_planes {P : Program} {w : World} {K : PySem.W.Frag} {mg : Str → Option Value} {base : Heap} (G : Gm K mg) (c_wrong_by : Cal P w K mg base 7 "wrong_by" (toSp K d_wrong_by) []) (c_dimensions_told : Cal P w K mg base 1 "dimensions_told" (toSp K d_dimensions_told) []) (c_row_told : Cal P w K mg base 4 "row_told" (toSp K d_row_told) []) {C D : Addr} (Z : Rz P w K mg base "InvalidText" C D) {f : Addr} {cdv : Value} {A : Around} {outer : List Env} {s : Shared} {H : Hp} {E : XK} (hr : Room 7 (A.deeper (envOfC "read_planes" (defScope (top 28)) s.heap.objs.size f cdv))) : ∃ t, DSs (cxOf CX0 P w K mg base N_read_planes "read_planes" (defScope (top 28)) f cdv A outer s H E).nox (defBody (top 28)) t q_read_planes := ⟨_, dss_cons (ds_if (DW.dt (dw_or (dt_not (dt_val (dq_isi (n := "str") rfl G.b_isinstance rfl G.b_str (by decide +kernel) (dq_var 0 (pv 0))))) (dw_or1 (dt_cmp op_notNR o2_notN (dq_c c_wrong_by hr (by decide) rfl (da_cons (dq_var 0 (pv 0)) (da_nil))) (dq_non) (nomark _))))) (dss_one (ds_bad (ps_rz Z rfl hr (by decide) rfl takes0 (pv 0)))) (dss_nil)) (dss_cons (ds_set 1 sc_read_planes.nd (dq_split (dq_var 0 (pv 0)) (dq_gD G.c_END rfl))) (dss_one (ds_ret (dq_tup (da_cons (dq_str) (da_cons (dq_c c_dimensions_told hr (by decide) rfl (da_cons (dq_ix (dq_var 1 (pv 1)) (dq_int)) (da_nil))) (da_cons (dq_lc (own := [("line", 2)]) (tt := tYes) (te := tCall (toSp K d_row_told) [] E0 (tCons (tVar 2) (tNil))) (g := gName 2) rfl sc_read_planes.nd (di_list (dq_slice (dq_var 1 (pv 1)) (do_some (dq_int)) (do_some (dq_neg (dq_int))))) (blkOk_by (N := N_read_planes) (sc := defScope (top 28)) (own := [("line", 2)]) (by decide +kernel)) (fun _ _ _ _ _ => dg_name 2 (pg_name (i := 2) sc_read_planes.nd rfl (by first | exact .inl rfl | exact .inr rfl))) (fun _ _ _ _ _ => dts_nil) (fun _ _ _ _ _ => dq_c c_row_told hr (by decide) rfl (da_cons (dq_var 2 (pv 2)) (da_nil)))) (da_nil))))))))⟩
end K90
set_option Elab.async false
set_option linter.all false
set_option maxRecDepth 100000
set_option autoImplicit false
namespace K90
open PySem PySem.Spec PyProof.Rows L2 DL EX
theorem p_wrong_line (as R) (h : d_wrong_line as R) : as.length = 1 ∧ q_wrong_line { nx := fun ρ => R (.dt .none) (pwOf ρ), rt := fun r ρ => R r (pwOf ρ) } (as ++ List.replicate (N_wrong_line.length - 1) .un) := by
  obtain ⟨t, rfl, ht, h⟩ := h
  refine ⟨rfl, ?_⟩
  unfold q_wrong_line
  have k1 : kitB "str" "str" = some true := by decide
  simp [qVar_, qC, q2, q1, qTest_, qChain_, qAnd, qOr, qNot, qAndV_, qOrV_, qNotV_, qIf, qNil, qCons, qTup, qLst, qCB, qNext, qSeq, qRet, qRetN, qRetO_, qIfS, qAsg, qAsgO_, qPar, qParO_, qPar3, qPar3O_, qFrz_, qApN_, qStN_, qIxO_, qLend, qLendT, qNoPart, qPart_, qSl, qRevL_, qIsi_, qSplit_, qJoin_, qBits_, qIL_, qIT, qR1_, qR2_, qIS_, qIE_, qgN, qgNil, qgCons_, qgT_, qFor, qLc, qYes, qCall, qCallO_, kAdd, kI0_, kI_, kMul, kB0_, kEq, kNe, kIsN, kNotN, kIn, kNin, kLen_l, kLen_t, kLen_s, kAbs_, kMax2_, kInt_i, kInt_s, kStr_, kSum, kAll_, kAny_, kNeg_, dat_dt, dat_ow, dat_pw, toDt_dt, toDt_ow, toDt_pw, toDt_un, okSlot_dt, okSlot_ow, okSlot_un, okP_dt, okP_un, ownOf_ow, ownOf_pw, isN_n, isN_b, isN_i, isN_s, isN_l, isN_t, flatD_n, flatD_b, flatD_i, flatD_s, setOwn, ixq_l_, ixq_t_, ixq_s_, slq_l, slq_s, eqq_ii, eqq_ss, eqq_ll, eqq_tt, inn_l, inn_s, wipeR, freeV, mTup_t, mBool_b, mBoolS_b, mInt_i, mStr_s, mLst_l, mOpt_s, mOw_o, mOwn_o, mI1_i, mI2_i, mL1_l, tyD, k1]
  exact ⟨t, rfl, ht, fun ys => h _⟩
theorem p_read_planes (as R) (h : d_read_planes as R) : as.length = 1 ∧ q_read_planes { nx := fun ρ => R (.dt .none) (pwOf ρ), rt := fun r ρ => R r (pwOf ρ) } (as ++ List.replicate (N_read_planes.length - 1) .un) := by
  obtain ⟨t, rfl, ht, hw, h⟩ := h
  refine ⟨rfl, ?_⟩
  unfold q_read_planes
  have k1 : kitB "str" "str" = some true := by decide
  obtain ⟨l0, l1, l2⟩ := lines_facts ht
  obtain ⟨f1, f2, f3⟩ := split_facts (x := t) nl_ne nl_k
  have hsz : t.length + 2 ≤ sizeLine := lsz (by have := ht.1; omega)
  refine seq_i (fun ρ' => ρ' = [.dt (.str t), .un, .un]) (fun K hK => ?_) ?_
  · simp [qVar_, qC, q2, q1, qTest_, qChain_, qAnd, qOr, qNot, qAndV_, qOrV_, qNotV_, qIf, qNil, qCons, qTup, qLst, qCB, qNext, qSeq, qRet, qRetN, qRetO_, qIfS, qAsg, qAsgO_, qPar, qParO_, qPar3, qPar3O_, qFrz_, qApN_, qStN_, qIxO_, qLend, qLendT, qNoPart, qPart_, qSl, qRevL_, qIsi_, qSplit_, qJoin_, qBits_, qIL_, qIT, qR1_, qR2_, qIS_, qIE_, qgN, qgNil, qgCons_, qgT_, qFor, qLc, qYes, qCall, qCallO_, kAdd, kI0_, kI_, kMul, kB0_, kEq, kNe, kIsN, kNotN, kIn, kNin, kLen_l, kLen_t, kLen_s, kAbs_, kMax2_, kInt_i, kInt_s, kStr_, kSum, kAll_, kAny_, kNeg_, dat_dt, dat_ow, dat_pw, toDt_dt, toDt_ow, toDt_pw, toDt_un, okSlot_dt, okSlot_ow, okSlot_un, okP_dt, okP_un, ownOf_ow, ownOf_pw, isN_n, isN_b, isN_i, isN_s, isN_l, isN_t, flatD_n, flatD_b, flatD_i, flatD_s, setOwn, ixq_l_, ixq_t_, ixq_s_, slq_l, slq_s, eqq_ii, eqq_ss, eqq_ll, eqq_tt, inn_l, inn_s, wipeR, freeV, mTup_t, mBool_b, mBoolS_b, mInt_i, mStr_s, mLst_l, mOpt_s, mOw_o, mOwn_o, mI1_i, mI2_i, mL1_l, tyD, k1]
    refine ⟨t, rfl, ht, fun ys => ?_⟩
    rw [hw]
    simp [qVar_, qC, q2, q1, qTest_, qChain_, qAnd, qOr, qNot, qAndV_, qOrV_, qNotV_, qIf, qNil, qCons, qTup, qLst, qCB, qNext, qSeq, qRet, qRetN, qRetO_, qIfS, qAsg, qAsgO_, qPar, qParO_, qPar3, qPar3O_, qFrz_, qApN_, qStN_, qIxO_, qLend, qLendT, qNoPart, qPart_, qSl, qRevL_, qIsi_, qSplit_, qJoin_, qBits_, qIL_, qIT, qR1_, qR2_, qIS_, qIE_, qgN, qgNil, qgCons_, qgT_, qFor, qLc, qYes, qCall, qCallO_, kAdd, kI0_, kI_, kMul, kB0_, kEq, kNe, kIsN, kNotN, kIn, kNin, kLen_l, kLen_t, kLen_s, kAbs_, kMax2_, kInt_i, kInt_s, kStr_, kSum, kAll_, kAny_, kNeg_, dat_dt, dat_ow, dat_pw, toDt_dt, toDt_ow, toDt_pw, toDt_un, okSlot_dt, okSlot_ow, okSlot_un, okP_dt, okP_un, ownOf_ow, ownOf_pw, isN_n, isN_b, isN_i, isN_s, isN_l, isN_t, flatD_n, flatD_b, flatD_i, flatD_s, setOwn, ixq_l_, ixq_t_, ixq_s_, slq_l, slq_s, eqq_ii, eqq_ss, eqq_ll, eqq_tt, inn_l, inn_s, wipeR, freeV, mTup_t, mBool_b, mBoolS_b, mInt_i, mStr_s, mLst_l, mOpt_s, mOw_o, mOwn_o, mI1_i, mI2_i, mL1_l, optN]
    exact hK _ rfl
  rintro _ rfl
  refine seq_i (fun ρ' => ρ' = [.dt (.str t), .dt (.list ((linesOf t).map .str)), .un]) (fun K hK => ?_) ?_
  · simp [qVar_, qC, q2, q1, qTest_, qChain_, qAnd, qOr, qNot, qAndV_, qOrV_, qNotV_, qIf, qNil, qCons, qTup, qLst, qCB, qNext, qSeq, qRet, qRetN, qRetO_, qIfS, qAsg, qAsgO_, qPar, qParO_, qPar3, qPar3O_, qFrz_, qApN_, qStN_, qIxO_, qLend, qLendT, qNoPart, qPart_, qSl, qRevL_, qIsi_, qSplit_, qJoin_, qBits_, qIL_, qIT, qR1_, qR2_, qIS_, qIE_, qgN, qgNil, qgCons_, qgT_, qFor, qLc, qYes, qCall, qCallO_, kAdd, kI0_, kI_, kMul, kB0_, kEq, kNe, kIsN, kNotN, kIn, kNin, kLen_l, kLen_t, kLen_s, kAbs_, kMax2_, kInt_i, kInt_s, kStr_, kSum, kAll_, kAny_, kNeg_, dat_dt, dat_ow, dat_pw, toDt_dt, toDt_ow, toDt_pw, toDt_un, okSlot_dt, okSlot_ow, okSlot_un, okP_dt, okP_un, ownOf_ow, ownOf_pw, isN_n, isN_b, isN_i, isN_s, isN_l, isN_t, flatD_n, flatD_b, flatD_i, flatD_s, setOwn, ixq_l_, ixq_t_, ixq_s_, slq_l, slq_s, eqq_ii, eqq_ss, eqq_ll, eqq_tt, inn_l, inn_s, wipeR, freeV, mTup_t, mBool_b, mBoolS_b, mInt_i, mStr_s, mLst_l, mOpt_s, mOw_o, mOwn_o, mI1_i, mI2_i, mL1_l]
    exact ⟨by decide, hsz, hK _ rfl⟩
  rintro _ rfl
  have hm : ∀ l ∈ linesOf t, l.length ≤ 200000 ∧ ∀ c ∈ codes l, c < 1114112 := fun l hl => ⟨Nat.le_trans (f1 l hl).2 (by have := ht.1; omega), fun c hc => ht.2 c ((f1 l hl).1 c hc)⟩
  revert l0 l1 hm
  generalize linesOf t = ls
  intro l0 l1 hm
  cases ls with
  | nil => exact absurd rfl l0
  | cons z r =>
    have e0 : atI ((z :: r).map PyData.str) 0 = some (.str z) := by
      have e : ixN ((z :: r).map PyData.str).length 0 = some 0 := by unfold ixN; simp
      unfold atI
      rw [e]; rfl
    generalize hL : z :: r = ls at *
    simp [qVar_, qC, q2, q1, qTest_, qChain_, qAnd, qOr, qNot, qAndV_, qOrV_, qNotV_, qIf, qNil, qCons, qTup, qLst, qCB, qNext, qSeq, qRet, qRetN, qRetO_, qIfS, qAsg, qAsgO_, qPar, qParO_, qPar3, qPar3O_, qFrz_, qApN_, qStN_, qIxO_, qLend, qLendT, qNoPart, qPart_, qSl, qRevL_, qIsi_, qSplit_, qJoin_, qBits_, qIL_, qIT, qR1_, qR2_, qIS_, qIE_, qgN, qgNil, qgCons_, qgT_, qFor, qLc, qYes, qCall, qCallO_, kAdd, kI0_, kI_, kMul, kB0_, kEq, kNe, kIsN, kNotN, kIn, kNin, kLen_l, kLen_t, kLen_s, kAbs_, kMax2_, kInt_i, kInt_s, kStr_, kSum, kAll_, kAny_, kNeg_, dat_dt, dat_ow, dat_pw, toDt_dt, toDt_ow, toDt_pw, toDt_un, okSlot_dt, okSlot_ow, okSlot_un, okP_dt, okP_un, ownOf_ow, ownOf_pw, isN_n, isN_b, isN_i, isN_s, isN_l, isN_t, flatD_n, flatD_b, flatD_i, flatD_s, setOwn, ixq_l_, ixq_t_, ixq_s_, slq_l, slq_s, eqq_ii, eqq_ss, eqq_ll, eqq_tt, inn_l, inn_s, wipeR, freeV, mTup_t, mBool_b, mBoolS_b, mInt_i, mStr_s, mLst_l, mOpt_s, mOw_o, mOwn_o, mI1_i, mI2_i, mL1_l, e0]
    refine ⟨z, rfl, (hm z (by rw [← hL]; simp)).1, fun ys => ?_⟩
    have hc : ∀ d ∈ DL.cutD (ls.map PyData.str) (some 1) (some (-1)), ∃ l ∈ ls, d = .str l := fun d hd => by
      unfold DL.cutD at hd
      obtain ⟨l, hl, e⟩ := List.mem_map.mp (List.mem_of_mem_drop (List.mem_of_mem_take hd))
      exact ⟨l, hl, e.symm⟩
    have hcl : (DL.cutD (ls.map PyData.str) (some 1) (some (-1))).length ≤ sizeLine := by
      unfold DL.cutD
      rw [List.length_take, List.length_drop, List.length_map]
      have : 100001 ≤ sizeLine := by decide
      omega
    refine lc_map rfl hcl rfl (fun d => match d with | .str l => optR (rt l) | _ => .none) ?_ ?_
    · intro d hd Y hY
      obtain ⟨l, hl, rfl⟩ := hc d hd
      simp [qVar_, qC, q2, q1, qTest_, qChain_, qAnd, qOr, qNot, qAndV_, qOrV_, qNotV_, qIf, qNil, qCons, qTup, qLst, qCB, qNext, qSeq, qRet, qRetN, qRetO_, qIfS, qAsg, qAsgO_, qPar, qParO_, qPar3, qPar3O_, qFrz_, qApN_, qStN_, qIxO_, qLend, qLendT, qNoPart, qPart_, qSl, qRevL_, qIsi_, qSplit_, qJoin_, qBits_, qIL_, qIT, qR1_, qR2_, qIS_, qIE_, qgN, qgNil, qgCons_, qgT_, qFor, qLc, qYes, qCall, qCallO_, kAdd, kI0_, kI_, kMul, kB0_, kEq, kNe, kIsN, kNotN, kIn, kNin, kLen_l, kLen_t, kLen_s, kAbs_, kMax2_, kInt_i, kInt_s, kStr_, kSum, kAll_, kAny_, kNeg_, dat_dt, dat_ow, dat_pw, toDt_dt, toDt_ow, toDt_pw, toDt_un, okSlot_dt, okSlot_ow, okSlot_un, okP_dt, okP_un, ownOf_ow, ownOf_pw, isN_n, isN_b, isN_i, isN_s, isN_l, isN_t, flatD_n, flatD_b, flatD_i, flatD_s, setOwn, ixq_l_, ixq_t_, ixq_s_, slq_l, slq_s, eqq_ii, eqq_ss, eqq_ll, eqq_tt, inn_l, inn_s, wipeR, freeV, mTup_t, mBool_b, mBoolS_b, mInt_i, mStr_s, mLst_l, mOpt_s, mOw_o, mOwn_o, mI1_i, mI2_i, mL1_l]
      exact ⟨l, rfl, (hm l hl).1, (hm l hl).2, fun ys => hY⟩
    · simp [qVar_, qC, q2, q1, qTest_, qChain_, qAnd, qOr, qNot, qAndV_, qOrV_, qNotV_, qIf, qNil, qCons, qTup, qLst, qCB, qNext, qSeq, qRet, qRetN, qRetO_, qIfS, qAsg, qAsgO_, qPar, qParO_, qPar3, qPar3O_, qFrz_, qApN_, qStN_, qIxO_, qLend, qLendT, qNoPart, qPart_, qSl, qRevL_, qIsi_, qSplit_, qJoin_, qBits_, qIL_, qIT, qR1_, qR2_, qIS_, qIE_, qgN, qgNil, qgCons_, qgT_, qFor, qLc, qYes, qCall, qCallO_, kAdd, kI0_, kI_, kMul, kB0_, kEq, kNe, kIsN, kNotN, kIn, kNin, kLen_l, kLen_t, kLen_s, kAbs_, kMax2_, kInt_i, kInt_s, kStr_, kSum, kAll_, kAny_, kNeg_, dat_dt, dat_ow, dat_pw, toDt_dt, toDt_ow, toDt_pw, toDt_un, okSlot_dt, okSlot_ow, okSlot_un, okP_dt, okP_un, ownOf_ow, ownOf_pw, isN_n, isN_b, isN_i, isN_s, isN_l, isN_t, flatD_n, flatD_b, flatD_i, flatD_s, setOwn, ixq_l_, ixq_t_, ixq_s_, slq_l, slq_s, eqq_ii, eqq_ss, eqq_ll, eqq_tt, inn_l, inn_s, wipeR, freeV, mTup_t, mBool_b, mBoolS_b, mInt_i, mStr_s, mLst_l, mOpt_s, mOw_o, mOwn_o, mI1_i, mI2_i, mL1_l]
      exact ⟨by decide, h _ _⟩
end K90
set_option Elab.async false
set_option linter.all false
set_option maxRecDepth 100000
set_option autoImplicit false
namespace K90
open PySem PySem.Spec PyProof.Rows L2 DL EX
open C8 (Cal)
section
variable {P : Program} {w : World} {K : PySem.W.Frag} {mg : Str → Option Value} {base : Heap} {C D f : Addr} {fd : FuncData}
/-- wrong_line of no string -/
theorem wl_raises (F : FunD K "wrong_line" "wrong_line" (defArgs (top 27)) (defBody (top 27)) (defScope (top 27)) [] [] f fd) (G : Gm K mg) (Z : Rz P w K mg base "InvalidText" C D) (cw : Cal P w K mg base 7 "wrong_by" (toSp K d_wrong_by) []) : FnOk P w K mg base (L2.CX P w) 8 f fd ["text"] (spNs K C) := by
  refine F.ok (CX := L2.CX P w) (N := N_wrong_line) (k := 7) sc_wrong_line (fun vs H Q E ⟨v, t, e, _⟩ => by rw [e]; rfl) fun cdv A outer s H vs Q E hr hsp => ?_
  obtain ⟨v, t, rfl, ht, hk, hE⟩ := hsp
  refine ⟨_, pss_cons (ps_if (ptq (dt_not (dt_val (dq_isi (n := "str") rfl G.b_isinstance rfl G.b_str (by decide +kernel) (dq_var 0 (pv 0)))))) (pss_one (ps_rz Z rfl hr (by decide) rfl (takes_of rfl rfl rfl rfl) (pv 0))) pss_nil) (pss_one (ps_ret (peq (dq_c cw hr (by decide) rfl (da_cons (dq_var 0 (pv 0)) da_nil))))), ?_⟩
  refine ⟨v, rfl, v, .ty "str", .type t, .type "str", false, rfl, .ty "str", ht, kit_ty hk, false, rfl, ?_⟩
  exact ⟨v, rfl, by show 1 ≤ 1000; decide, mkO_in Z.ex fun d hd => hE d hd⟩
/-- read_planes -/
def spRp (K : PySem.W.Frag) (C : Addr) : Sp := fun vs H Q E => ∃ t : Str, vs = [.str t] ∧ TxOk t ∧ (wrongBy t = none → ∀ v H', Same H H' → Q v H') ∧ (wrongBy t ≠ none → ∀ H' e, Same H H' → H' e = none → E (.ref C) (some e) (upd H' e (.xd [("value", .str t)])))
theorem rp_raises (F : FunD K "read_planes" "read_planes" (defArgs (top 28)) (defBody (top 28)) (defScope (top 28)) [] [] f fd) (G : Gm K mg) (Z : Rz P w K mg base "InvalidText" C D) (cw : Cal P w K mg base 7 "wrong_by" (toSp K d_wrong_by) [])
    (cd : Cal P w K mg base 1 "dimensions_told" (toSp K d_dimensions_told) []) (cr : Cal P w K mg base 4 "row_told" (toSp K d_row_told) []) (F0 : FnOk P w K mg base CX0 8 f fd ["text"] (toSp K d_read_planes)) : FnOk P w K mg base (L2.CX P w) 8 f fd ["text"] (spRp K C) := by
  have F1 : FnOk P w K mg base (L2.CX P w) 8 f fd ["text"] (fun vs H Q E => ∃ t : Str, vs = [.str t] ∧ TxOk t ∧ wrongBy t ≠ none ∧ ∀ H' e, Same H H' → H' e = none → E (.ref C) (some e) (upd H' e (.xd [("value", .str t)]))) := by
    refine F.ok (CX := L2.CX P w) (N := N_read_planes) (k := 7) sc_read_planes (fun vs H Q E ⟨t, e, _⟩ => by rw [e]; rfl) fun cdv A outer s H vs Q E hr hsp => ?_
    obtain ⟨t, rfl, ht, hw, hE⟩ := hsp
    obtain ⟨t0, D0⟩ : ∃ t0, PSs (cxOf (L2.CX P w) P w K mg base N_read_planes "read_planes" (defScope (top 28)) f cdv A outer s H E) ((defBody (top 28)).drop 1) t0 :=
      ⟨_, psq (dss_cons (ds_set 1 sc_read_planes.nd (dq_split (dq_var 0 (pv 0)) (dq_gD G.c_END rfl))) (dss_one (ds_ret (dq_tup (da_cons (dq_str) (da_cons (dq_c cd hr (by decide) rfl (da_cons (dq_ix (dq_var 1 (pv 1)) (dq_int)) (da_nil))) (da_cons (dq_lc (own := [("line", 2)]) (tt := tYes) (te := tCall (toSp K d_row_told) [] E0 (tCons (tVar 2) (tNil))) (g := gName 2) rfl sc_read_planes.nd (di_list (dq_slice (dq_var 1 (pv 1)) (do_some (dq_int)) (do_some (dq_neg (dq_int))))) (blkOk_by (N := N_read_planes) (sc := defScope (top 28)) (own := [("line", 2)]) (by decide +kernel)) (fun _ _ _ _ _ => dg_name 2 (pg_name (i := 2) sc_read_planes.nd rfl (by first | exact .inl rfl | exact .inr rfl))) (fun _ _ _ _ _ => dts_nil) (fun _ _ _ _ _ => dq_c cr hr (by decide) rfl (da_cons (dq_var 2 (pv 2)) (da_nil)))) (da_nil))))))))⟩
    refine ⟨_, pss_cons (ps_if (ptq (DW.dt (dw_or (dt_not (dt_val (dq_isi (n := "str") rfl G.b_isinstance rfl G.b_str (by decide +kernel) (dq_var 0 (pv 0))))) (dw_or1 (dt_cmp op_notNR o2_notN (dq_c cw hr (by decide) rfl (da_cons (dq_var 0 (pv 0)) (da_nil))) (dq_non) (nomark _)))))) (pss_one (ps_rz Z rfl hr (by decide) rfl (takes_of rfl rfl rfl rfl) (pv 0))) pss_nil) D0, ?_⟩
    refine ⟨.str t, rfl, .str t, .ty "str", .type "str", .type "str", true, rfl, .ty "str", tyx_of (d := .str t) (rp_str.mpr rfl), kit_ty (by decide), true, rfl, ?_⟩
    refine ⟨.str t, rfl, sp_one (E := E0) (fun z => z = optN (wrongBy t)) (rp_str.mpr rfl) ⟨t, rfl, ht, fun ys => ⟨_, rfl, rfl⟩⟩ fun z u H' hs hz e => ?_⟩
    subst e
    cases hb : wrongBy t with
    | none => exact absurd hb hw
    | some n =>
      rw [hb] at hz
      have eu : u = .int n := rp_int.mp hz
      subst eu
      refine ⟨rfl, true, rfl, ?_⟩
      exact ⟨.str t, rfl, by show 1 ≤ 1000; decide, mkO_in Z.ex fun d hd => hE H' d hs hd⟩
  refine (fn_or (fn_cx F0) F1).imp fun vs H Q E ⟨t, e, ht, h1, h2⟩ => ?_
  subst e
  by_cases hw : wrongBy t = none
  · exact .inl (sp_one (fun _ => True) (rp_str.mpr rfl) ⟨t, rfl, ht, hw, fun d ys => ⟨d, rfl, trivial⟩⟩ fun z u H' s _ _ => h1 hw u H' s)
  · exact .inr ⟨t, rfl, ht, hw, h2 hw⟩
end
end K90
set_option Elab.async false
set_option linter.all false
set_option maxRecDepth 100000
set_option autoImplicit false
set_option maxHeartbeats 4000000
namespace K90
open PySem PySem.Spec PyProof.Rows L2 DL EX
open C8 (Cal)
abbrev N_law : List Str := ["script", "index", "full", "wrong", "generator", "text", "caught", "e", "due", "at"]
abbrev P_law : List Str := ["script"]
theorem sc_law : FnScope N_law P_law (defScope (top 50)) := ⟨rfl, rfl, rfl, by decide +kernel, rfl, by decide +kernel, by decide +kernel⟩
theorem uni {k : Nat} {A : Around} (r : Room k A) : A.units + 100 < cLine := by have := r.un; omega
/-- a def that may raise, by its name -/
structure CalX (P : Program) (w : World) (K : PySem.W.Frag) (mg : Str → Option Value) (base : Heap) (k : Nat) (x : Str) (ps : List Str) (sp : Sp) : Prop where
  ex : ∃ (f : Addr) (fd : FuncData), FnOk P w K mg base (L2.CX P w) k f fd ps sp ∧ mg x = some (.ref f) ∧ PySem.W.keepIn K (.ref f) = true ∧ Binds K fd ps []
structure Wz (P : Program) (w : World) (K : PySem.W.Frag) (mg : Str → Option Value) (base : Heap) (C D : Addr) : Prop where
  z : Rz P w K mg base "InvalidText" C D
  rp : CalX P w K mg base 8 "read_planes" ["text"] (spRp K C)
  wl : CalX P w K mg base 8 "wrong_line" ["text"] (spNs K C)
/-! ### try: read_planes(text) .., (caught is None) != (due is None) -/
def tR1 (K : PySem.W.Frag) : TS := tIfS (tTest (tOp (rNeA K) (tOp rIsN (tVar 6) (tC .non)) (tOp rIsN (tVar 8) (tC .non)))) (tRet (tC (.bl false))) tNext
def t1 (K : PySem.W.Frag) (C : Addr) : TS := fun D σ H => tDrop (tCallS (spRp K C) (WE (wKeep K (.ref C) 7 (fun a cls d => tAsg (tVar 7) (gName 6)) (fun a cls d => tR1 K) D)) (tCons (tVar 5) tNil)) { D with nx := tR1 K D } σ H
def qTry1 : QS := fun D ρ => ∃ tx : Str, ρ[5]? = some (.dt (.str tx)) ∧ ρ[8]? = some (.dt (optN (wrongBy tx))) ∧ ρ[6]? = some (.dt .none) ∧ ρ[7]? = some .un ∧ TxOk tx ∧ D.nx (ρ.set 6 .un)
section
variable {P : Program} {w : World} {K : PySem.W.Frag} {mg : Str → Option Value} {base : Heap} {C D f : Addr} {cdv : Value} {A : Around} {outer : List Env} {s : Shared} {H : Hp} {E : XK}
theorem set_same {α : Type} {l : List α} {i : Nat} {x : α} (h : l[i]? = some x) : l.set i x = l := by
  obtain ⟨hl, e⟩ := List.getElem?_eq_some_iff.mp h
  rw [← e]
  exact List.set_getElem_self hl
/-- its last statement's reading, the two names known -/
theorem r1_go {D' : Ends} {σ : L2.St} {H1 : Hp} {v u : V} (h6 : σ[6]? = some (some v)) (h8 : σ[8]? = some (some u)) (e : decide (v = .non) = decide (u = .non)) (h : D'.nx σ H1) : tR1 K D' σ H1 := by
  refine ⟨v, h6, rfl, u, h8, rfl, .inl ⟨rfl, ?_⟩⟩
  refine ⟨false, ?_, h⟩
  rw [e]
  simp
theorem tr1 (Z : Wz P w K mg base C D) (hr : Room 8 (A.deeper (envOfC "law" (defScope (top 50)) s.heap.objs.size f cdv))) {p1 p2 p3 p4 p5 p6 p7 p8 p9 p10 p11 p12 p13 p14 p15 p16 p17 p18 p19 p20 : Pos} {k1 k2 k3 : Nat} :
    DSs (cxOf CX0 P w K mg base N_law "law" (defScope (top 50)) f cdv A outer s H E).nox
      [.Try [.Expr (.Call (.Name "read_planes" p1) [.Name "text" p2] [] p3) p4] [.ExceptHandler (some (.Name "InvalidText" p5)) (some "e") [.Assign [.Name "caught" p6] (.Name "e" p7) p8] p9] [] [] p10,
       .If (.Compare (.Compare (.Name "caught" p11) [.Is] [.Constant .none k1 p12] p13) [.NotEq] [.Compare (.Name "due" p14) [.Is] [.Constant .none k2 p15] p16] p17) [.Return (some (.Constant (.bool false) k3 p18)) p19] [] p20] (t1 K C) qTry1 := by
  obtain ⟨fR, fdR, FR, mR, kR, bR⟩ := Z.rp.ex
  refine ⟨?_, fun F hF ρ D0 ⟨tx, h5, h8, h6, h7, htx, hq⟩ S σ H0 En0 D' n1 n2 n3 n4 => ?_⟩
  · refine pss_try_keep (x := "InvalidText") (n := "e") (c := .ref C) (i := 7) (tb := fun W => tDrop (tCallS (spRp K C) (WE W) (tCons (tVar 5) tNil))) (ts := fun a cls d => tAsg (tVar 7) (gName 6)) (r := fun a cls d => tR1 K) (r0 := tR1 K) rfl rfl sc_law.nd rfl rfl ⟨rfl, by decide, .inl Z.z.g⟩
      (fun W pn xe tk hp => pss_one (ps_expr (by exact (pe_callS FR hr rfl mR kR bR (fun σ => passAt tk σ) (by exact (pa_cons (pv 5) pa_nil))))))
      (fun a oe cls d pn hz hf => pss_one (ps_set (i := 6) sc_law.nd rfl (Or.inl rfl) (by exact (pv 7)))) ?_ (fun a oe cls d pn hz hf => ?_)
    · exact psq (dss_one (ds_if (dt_cmp (op_neA hr.units) o2_ne (dq_cmp op_isNR o2_isN (dq_var 6 (pv 6)) dq_non (nomark _)) (dq_cmp op_isNR o2_isN (dq_var 8 (pv 8)) dq_non (nomark _)) (nomark _)) (dss_one (ds_ret dq_bl)) dss_nil))
    · exact psq (dss_one (ds_if (dt_cmp (op_neA hr.units) o2_ne (dq_cmp op_isNR o2_isN (dq_var 6 (pv 6)) dq_non (nomark _)) (dq_cmp op_isNR o2_isN (dq_var 8 (pv 8)) dq_non (nomark _)) (nomark _)) (dss_one (ds_ret dq_bl)) dss_nil))
  · obtain ⟨v5, g5, r5⟩ := (En0.at_ 5 _ h5).2
    obtain ⟨v8, g8, r8⟩ := (En0.at_ 8 _ h8).2
    obtain ⟨v6, g6, r6⟩ := (En0.at_ 6 _ h6).2
    have e5 := rp_str.mp r5
    have e6 := rp_non.mp r6
    subst e5 e6
    have lσ : σ.length = ρ.length := En0.len.symm
    have i6 : 6 < σ.length := by rw [lσ]; exact (List.getElem?_eq_some_iff.mp h6).1
    have i7 : 7 < σ.length := by rw [lσ]; exact (List.getElem?_eq_some_iff.mp h7).1
    have on6 : okP ρ[6]? = true := by rw [h6]; rfl
    have on7 : okP ρ[7]? = true := by rw [h7]; rfl
    refine ⟨.str tx, g5, tx, rfl, htx, fun hw v H' hs => ?_, fun hw H' e hs he => ?_⟩
    · -- nothing raised
      rw [hw] at r8
      have e8 : v8 = .non := rp_non.mp r8
      subst e8
      refine r1_go g6 g8 rfl (n1 S σ H' _ ?_ (hide_same hs) hq)
      have q := EX.En.any (En0.ext hs) (i := 6) (some .non) on6
      rw [set_same g6] at q
      exact q
    · -- caught
      refine ⟨Z.z.te, fun a ha => ?_⟩
      have hse : Same H0 (upd H' e (.xd [("value", .str tx)])) := fun b o q => same_new he _ _ (hs _ _ q)
      obtain ⟨n, hn⟩ := Option.ne_none_iff_exists'.mp hw
      rw [hn] at r8
      have e8 : v8 = .int n := rp_int.mp r8
      subst e8
      refine ⟨.ref a, List.getElem?_set_self i7, ?_⟩
      have q := EX.En.any (EX.En.any (EX.En.any (En0.ext hse) (i := 7) (some (.ref a)) on7) (i := 6) (some (.ref a)) (by rw [List.getElem?_set_ne (by decide)]; exact on6)) (i := 7) none (by rw [List.getElem?_set_ne (by decide), List.getElem?_set_self (by rw [← lσ]; exact i7)]; rfl)
      refine r1_go (v := .ref a) (u := .int n) ?_ ?_ rfl (n1 S _ _ _ ?_ (hide_same hse) hq)
      · rw [List.getElem?_set_ne (by decide), List.getElem?_set_self (by rw [List.length_set]; exact i6)]
      · rw [List.getElem?_set_ne (by decide), List.getElem?_set_ne (by decide), List.getElem?_set_ne (by decide)]
        exact g8
      · have er : (((ρ.set 7 .un).set 6 .un).set 7 .un) = ρ.set 6 .un := by
          rw [set_same h7, set_same (by rw [List.getElem?_set_ne (by decide)]; exact h7)]
        rw [er] at q
        exact q
end
end K90
set_option Elab.async false
set_option linter.all false
set_option maxRecDepth 100000
set_option autoImplicit false
set_option maxHeartbeats 4000000
namespace K90
open PySem PySem.Spec PyProof.Rows L2 DL EX
open C8 (Cal)
/-! ### values that are no strings -/
/-- no string; it shows as something -/
def El (K : PySem.W.Frag) (H : Hp) (v : V) : Prop := ∃ (t : String) (d : PyData), TyX K H v (.type t) ∧ kitB t "str" = some false ∧ ShV K H v d ∧ d.showable = true ∧ d.depth ≤ 60 ∧ d.shown.length ≤ sizeLine
theorem el_of {K : PySem.W.Frag} {H : Hp} {v : V} {d : PyData} (r : Rp K H d v) (h1 : kitB (tyD d) "str" = some false) (h2 : d.hasDict = false) (h3 : d.showable = true) (h4 : d.depth ≤ 60) (h5 : d.shown.length ≤ sizeLine) : El K H v := ⟨tyD d, d, tyx_of r, h1, .inl ⟨r.dp, h2⟩, h3, h4, h5⟩
def wrongs (p1 p2 p3 : Addr) : List V := [.non, .int 7, .ref p1, .bl true, .ref p2, .ref p3]
def lit1 : PyData := .list [.str "dimensions 1", .str "1 1"]
def lit2 : PyData := .tuple [.str "dimensions 1\n1 1\n"]
theorem els {K : PySem.W.Frag} {H : Hp} {p1 p2 p3 : Addr} (h1 : H p1 = some (.lst [.str "dimensions 1", .str "1 1"])) (h2 : H p2 = some (.tup [.str "dimensions 1\n1 1\n"])) (h3 : H p3 = some (.dK [])) : ∀ v ∈ wrongs p1 p2 p3, El K H v := by
  intro v hv
  simp only [wrongs, List.mem_cons, List.not_mem_nil, or_false] at hv
  rcases hv with e | e | e | e | e | e <;> subst e
  · exact el_of (d := .none) (rp_non.mpr rfl) (by decide) (by decide +kernel) (by decide +kernel) (by decide +kernel) (by decide +kernel)
  · exact el_of (d := .int 7) (rp_int.mpr rfl) (by decide) (by decide +kernel) (by decide +kernel) (by decide +kernel) (by decide +kernel)
  · exact el_of (d := lit1) (rp_lst.mpr ⟨p1, _, rfl, .inl (.inl h1), RpL.strs ["dimensions 1", "1 1"]⟩) (by decide) (by decide +kernel) (by decide +kernel) (by decide +kernel) (by decide +kernel)
  · exact el_of (d := .bool true) (rp_bl.mpr rfl) (by decide) (by decide +kernel) (by decide +kernel) (by decide +kernel) (by decide +kernel)
  · exact el_of (d := lit2) (rp_tup.mpr ⟨p2, _, rfl, .inl (.inl h2), RpL.strs ["dimensions 1\n1 1\n"]⟩) (by decide) (by decide +kernel) (by decide +kernel) (by decide +kernel) (by decide +kernel)
  · exact ⟨"dict", .dict [], .base (.dK h3), by decide, .inr ⟨p3, rfl, h3, rfl⟩, by decide +kernel, by decide +kernel, by decide +kernel⟩
/-! ### for wrong in [..]: .. -/
def tR2 (K : PySem.W.Frag) (C a : Addr) (cls : Value) (d : Option Addr) : TS := tIfS (tOr (tTest (tOp rIsN (tVar 6) (tC .non))) (tTest (tOp (rNeA K) (tCB (rRepr K) (tCons (tXv a cls d C (tVar 6)) tNil)) (tCB (rRepr K) (tCons (tVar 3) tNil))))) (tRet (tC (.bl false))) tNext
def t2T (K : PySem.W.Frag) (C : Addr) : TS := fun D σ H => tDrop (tCallS (spNs K C) (WE (wKeep K (.ref C) 7 (fun a cls d => tAsg (tVar 7) (gName 6)) (fun a cls d => tR2 K C a cls d) D)) (tCons (tVar 3) tNil)) { D with nx := (fun _ _ _ => False : TS) D } σ H
def tEls : TA := tCons (tC .non) (tCons (tC (.int 7)) (tCons (tLst (tCons (tC (.str "dimensions 1")) (tCons (tC (.str "1 1")) tNil))) (tCons (tC (.bl true)) (tCons (tTup (tCons (tC (.str "dimensions 1\n1 1\n")) tNil)) (tCons tDNewK tNil)))))
def t2 (K : PySem.W.Frag) (C : Addr) : TS := tFor (iList K (tLst tEls)) (gName 3) (tSeq (tAsg (tC .non) (gName 6)) (t2T K C))
def qTry2 : QS := fun D ρ => okP ρ[3]? = true ∧ okP ρ[6]? = true ∧ ρ[7]? = some .un ∧ D.nx ((ρ.set 3 .un).set 6 .un)
theorem en_un {F : Fm} {S : List (Option Addr)} {σ : L2.St} {H : Hp} {ρ : List SD} (E : En F S σ H ρ) {i : Nat} (ok : okP ρ[i]? = true) : En F S σ H (ρ.set i .un) := by
  have hl : i < σ.length := by
    rw [← E.len]
    cases e : ρ[i]? with
    | none => rw [e] at ok; cases ok
    | some s => exact (List.getElem?_eq_some_iff.mp e).1
  have q := EX.En.any E σ[i] ok
  rw [List.set_getElem_self hl] at q
  exact q
section
variable {P : Program} {w : World} {K : PySem.W.Frag} {mg : Str → Option Value} {base : Heap} {C D f : Addr} {cdv : Value} {A : Around} {outer : List Env} {s : Shared} {H : Hp} {E : XK}
theorem tr2_ps (G : Gm K mg) (b_repr : mg "repr" = none) (gd : A.guards = some []) (Z : Wz P w K mg base C D) (hr : Room 8 (A.deeper (envOfC "law" (defScope (top 50)) s.heap.objs.size f cdv))) : PS (cxOf CX0 P w K mg base N_law "law" (defScope (top 50)) f cdv A outer s H E).nox ((defBody (top 50)).getD 3 (.Pass ⟨0, 0, 0, 0⟩)) (t2 K C) := by
  obtain ⟨fR, fdR, FR, mR, kR, bR⟩ := Z.wl.ex
  refine ps_for PassesOwn.never rfl (pi_list (pe_lst (pa_cons (peq dq_non) (pa_cons (peq dq_int) (pa_cons (pe_lst (pa_cons (peq dq_str) (pa_cons (peq dq_str) pa_nil))) (pa_cons (peq dq_bl) (pa_cons (pe_tup (pa_cons (peq dq_str) pa_nil)) (pa_cons pe_dnewK pa_nil)))))))) (pg_name (i := 3) sc_law.nd rfl (Or.inl rfl)) (pss_cons (ps_set (i := 6) sc_law.nd rfl (Or.inl rfl) (peq dq_non)) ?_)
  refine pss_try_keep (x := "InvalidText") (n := "e") (c := .ref C) (i := 7) (tb := fun W => tDrop (tCallS (spNs K C) (WE W) (tCons (tVar 3) tNil))) (ts := fun a cls d => tAsg (tVar 7) (gName 6)) (r := fun a cls d => tR2 K C a cls d) (r0 := fun _ _ _ => False) rfl rfl sc_law.nd rfl rfl ⟨rfl, by decide, .inl Z.z.g⟩
      (fun W pn xe tk hp => pss_one (ps_expr (by exact (pe_callS FR hr rfl mR kR bR (fun σ => passAt tk σ) (by exact (pa_cons (pv 3) pa_nil))))))
      (fun a oe cls d pn hz hf => pss_one (ps_set (i := 6) sc_law.nd rfl (Or.inl rfl) (by exact (pv 7)))) ⟨fun _ _ _ _ _ _ h => h.elim⟩ (fun a oe cls d pn hz hf => ?_)
  refine pss_one (ps_if (PW.pt (pw_or (pt_cmpR op_isNR (pv 6) (peq dq_non) (nomark _)) (pw_or1 (pt_cmpR (op_neA hr.units) (pe_repr gd (uni hr) b_repr rfl (pe_xv Z.z.xf Z.z.ex.noV hz hf rfl (pv 6))) (pe_repr gd (uni hr) b_repr rfl (pv 3)) (nomark _))))) (pss_one (ps_ret (peq dq_bl))) pss_nil)
end
end K90
set_option Elab.async false
set_option linter.all false
set_option maxRecDepth 100000
set_option autoImplicit false
set_option maxHeartbeats 4000000
namespace K90
open PySem PySem.Spec PyProof.Rows L2 DL EX
open C8 (Cal)
section
variable {P : Program} {w : World} {K : PySem.W.Frag} {mg : Str → Option Value} {base : Heap} {C D f : Addr} {cdv : Value} {A : Around} {outer : List Env} {s : Shared} {H : Hp} {E : XK}
theorem okp_lt {ρ : List SD} {i : Nat} (ok : okP ρ[i]? = true) : i < ρ.length := by
  cases e : ρ[i]? with
  | none => rw [e] at ok; cases ok
  | some s => exact (List.getElem?_eq_some_iff.mp e).1
theorem iteF {A B : Prop} (h : B) : if false = true then A else B := h
/-- the last statement behind the clause -/
theorem r2_go {a e : Addr} {D' : Ends} {σ : L2.St} {H1 : Hp} {x : V} (h6 : σ[6]? = some (some (.ref a))) (h3 : σ[3]? = some (some x)) (he : H1 e = some (.xd [("value", x)])) (hx : El K H1 x) (h : D'.nx σ H1) : tR2 K C a (.ref C) (some e) D' σ H1 := by
  obtain ⟨t, d, ty, kk, sh, s1, s2, s3⟩ := hx
  refine ⟨.ref a, h6, rfl, false, rfl, ?_⟩
  refine iteF ?_
  refine ⟨.ref a, h6, rfl, rfl, e, x, rfl, he, x, d, rfl, sh, s1, s2, s3, x, h3, x, d, rfl, sh, s1, s2, s3, .inl ⟨rfl, false, by simp, ?_⟩⟩
  exact h
theorem tr2 (G : Gm K mg) (b_repr : mg "repr" = none) (gd : A.guards = some []) (Z : Wz P w K mg base C D) (hr : Room 8 (A.deeper (envOfC "law" (defScope (top 50)) s.heap.objs.size f cdv))) : DS (cxOf CX0 P w K mg base N_law "law" (defScope (top 50)) f cdv A outer s H E).nox ((defBody (top 50)).getD 3 (.Pass ⟨0, 0, 0, 0⟩)) (t2 K C) qTry2 := by
  refine ⟨tr2_ps G b_repr gd Z hr, fun F hF ρ D0 ⟨h3, h6, h7, hq⟩ S σ H0 En0 D' n1 n2 n3 n4 => ?_⟩
  have lσ : σ.length = ρ.length := En0.len.symm
  have i3 : 3 < ρ.length := okp_lt h3
  have i6 : 6 < ρ.length := okp_lt h6
  have i7 : 7 < ρ.length := (List.getElem?_eq_some_iff.mp h7).1
  -- the values
  refine ⟨by show 2 ≤ sizeLine; decide, fun p1 f1 => ⟨by show 1 ≤ sizeLine; decide, fun p2 f2 p3 f3 => ⟨by show 6 ≤ sizeLine; decide, fun p f4 => ⟨p, rfl, ⟨wrongs p1 p2 p3, .inl (.inl upd_same)⟩, ?_⟩⟩⟩⟩
  have g1 := same_new (o := .lst [.str "dimensions 1", .str "1 1"]) f1
  have g2 := same_new (o := .tup [.str "dimensions 1\n1 1\n"]) f2
  have g3 := same_new (o := .dK []) f3
  have g4 := same_new (o := .lst (wrongs p1 p2 p3)) f4
  obtain ⟨H1, eH, k0, a1, a2, a3, ap⟩ : ∃ H1 : Hp, H1 = upd (upd (upd (upd H0 p1 (.lst [.str "dimensions 1", .str "1 1"])) p2 (.tup [.str "dimensions 1\n1 1\n"])) p3 (.dK [])) p (.lst (wrongs p1 p2 p3)) ∧ Same H0 H1 ∧ H1 p1 = some (.lst [.str "dimensions 1", .str "1 1"]) ∧ H1 p2 = some (.tup [.str "dimensions 1\n1 1\n"]) ∧ H1 p3 = some (.dK []) ∧ H1 p = some (.lst (wrongs p1 p2 p3)) :=
    ⟨_, rfl, fun b o e => g4 b o (g3 b o (g2 b o (g1 b o e))), g4 p1 _ (g3 p1 _ (g2 p1 _ upd_same)), g4 p2 _ (g3 p2 _ upd_same), g4 p3 _ upd_same, upd_same⟩
  have En1 := en_un (en_un (En0.ext k0) h3) (i := 6) (by rw [List.getElem?_set_ne (by decide)]; exact h6)
  have main : ∀ Hx : Hp, Hx = H1 → ∃ W : Nat → Nat → L2.St → Hp → Prop, (∃ m, W 0 m σ Hx) ∧ ∀ i m σ H, W i m σ H →
      ((Itl K p).stop i H ∧ D'.nx σ H) ∨ ((Itl K p).go i H ∧ ∃ N : L2.St → Hp → Prop, (∀ σ' H', N σ' H' → ∃ m', m' < m ∧ W (i + 1) m' σ' H') ∧ ∀ x H', (Itl K p).yld i H x H' → gName 3 x σ H' fun σ2 H2 => tSeq (tAsg (tC .non) (gName 6)) (t2T K C) { D' with nx := N, ct := N, bk := D'.nx } σ2 H2) := fun Hx eX => by
    subst eX
    refine for_list (K := K) (a := p) (xs := wrongs p1 p2 p3) (fun i σ' H' => En F S σ' H' ((ρ.set 3 .un).set 6 .un) ∧ Same Hx H') ⟨En1, Same.refl _⟩ (fun i σ' H' _ ⟨_, z⟩ => .inl (.inl (z _ _ ap))) ?_ fun σ' H' ⟨z1, z2⟩ => n1 S σ' H' _ z1 (hide_same (k0.trans z2)) hq
    rintro i x σ' H' hi ⟨En2, s2⟩
    have l2 : σ'.length = ρ.length := by rw [← En2.len, List.length_set, List.length_set]
    have hx : ∀ H2, Same Hx H2 → El K H2 x := fun H2 z => els (z _ _ a1) (z _ _ a2) (z _ _ a3) x (List.mem_of_getElem? hi)
    obtain ⟨t, d, ty, kk, _⟩ := hx H' s2
    have j3 : 3 < σ'.length := by omega
    have j6 : 6 < σ'.length := by omega
    have j7 : 7 < σ'.length := by omega
    refine ⟨x, ?_, x, t, rfl, ty, kk, fun e he => ⟨Z.z.te, fun a ha => ⟨.ref a, ?_, ?_⟩⟩⟩
    · rw [List.getElem?_set_ne (by decide), List.getElem?_set_self j3]
    · rw [List.getElem?_set_self (by rw [List.length_set, List.length_set]; exact j7)]
    · have se : Same H' (upd H' e (.xd [("value", x)])) := same_new he
      refine r2_go ?_ ?_ upd_same (hx _ (s2.trans se)) ⟨?_, s2.trans se⟩
      · rw [List.getElem?_set_ne (by decide), List.getElem?_set_self (by simp only [List.length_set]; exact j6)]
      · rw [List.getElem?_set_ne (by decide), List.getElem?_set_ne (by decide), List.getElem?_set_ne (by decide), List.getElem?_set_ne (by decide), List.getElem?_set_self j3]
      · have o3 : okP ((ρ.set 3 .un).set 6 .un)[3]? = true := by rw [List.getElem?_set_ne (by decide), List.getElem?_set_self i3]; rfl
        have e3 : ((ρ.set 3 SD.un).set 6 .un)[3]? = some .un := by rw [List.getElem?_set_ne (by decide), List.getElem?_set_self i3]
        have e6 : ((ρ.set 3 SD.un).set 6 .un)[6]? = some .un := by rw [List.getElem?_set_self (by rw [List.length_set]; exact i6)]
        have e7 : ((ρ.set 3 SD.un).set 6 .un)[7]? = some .un := by rw [List.getElem?_set_ne (by decide), List.getElem?_set_ne (by decide)]; exact h7
        have st : ∀ {i : Nat} {y : Option V} {σ3 : L2.St} {H3 : Hp}, ((ρ.set 3 SD.un).set 6 .un)[i]? = some .un → En F S σ3 H3 ((ρ.set 3 .un).set 6 .un) → En F S (σ3.set i y) H3 ((ρ.set 3 .un).set 6 .un) := fun {i y σ3 H3} q z => by
          have z2 := EX.En.any z (i := i) y (by rw [q]; rfl)
          rw [set_same q] at z2
          exact z2
        exact st e7 (st e6 (st e7 (st e6 (st e3 (En2.ext se)))))
  exact main _ eH.symm
end
end K90
set_option Elab.async false
set_option linter.all false
set_option maxRecDepth 100000
set_option autoImplicit false
/-! printed by gen.py: scopes, q-terms, derivations -/
namespace K90
open PySem PySem.Spec PyProof.Rows L2 DL EX EXH
open C8 (Cal)
def q_law : QS := qSeq (qFor (qR1 (qCons (qC (.int 6)) (qNil))) (qgN 1) (qSeq (qAsgO (qCall d__law_generator (qCons (qVar 0) (qCons (qVar 1) (qNil)))) 4) (qFor (qIL (qCallO 4 d__law_texts (qCons (qCallO 4 d__law_planes (qNil)) (qNil)))) (qgN 5) (qSeq (qPar (qCall d__law_wrong (qCons (qVar 5) (qNil))) (qC .none) 8 6) (qSeq (qIfS (qTest (q2 kNe (qCB kRepr (qCons (qLst (qCons (qCall d_wrong_line (qCons (qVar 5) (qNil))) (qCons (qCall d_wrong_line (qCons (qVar 5) qNil)) (qNil)))) (qNil))) (qCB kRepr (qCons (qLst (qCons (qVar 8) (qCons (qVar 8) (qNil)))) (qNil))))) (qRet (qC (.bool false))) (qNext)) (qTry1)))))) (qSeq (qAsg (q2 kAdd (qC (.str "dimensions 1\n")) (qJoin (qC (.str "")) (qLc (qR1 (qCons (qC (.int 9)) (qNil))) (qgN 9) (qYes) (q2 kAdd (q2 kAdd (qC (.str "1 ")) (qCB kStr (qCons (qVar 9) (qNil)))) (qC (.str "\n"))) [9]))) 2) (qSeq (qIfS (qOr (qTest (q2 kNe (qCall d_wrong_line (qCons (qVar 2) (qNil))) (qC (.int 9)))) (qTest (q2 kNotN (qCall d_wrong_line (qCons (qSl (qVar 2) (qNoPart) (qPart (q1 kNeg (qC (.int 4))))) (qNil))) (qC .none)))) (qRet (qC (.bool false))) (qNext)) (qSeq (qTry2) (qRet (qC (.bool true))))))
theorem der_law {P : Program} {w : World} {K : PySem.W.Frag} {mg : Str → Option Value} {base : Heap} (G : Gm K mg) (c__law_generator : Cal P w K mg base 2 "_law_generator" (toSp K d__law_generator) []) (c__law_texts : Cal P w K mg base 4 "_law_texts" (toSp K d__law_texts) []) (c__law_planes : Cal P w K mg base 4 "_law_planes" (toSp K d__law_planes) []) (c__law_wrong : Cal P w K mg base 5 "_law_wrong" (toSp K d__law_wrong) []) (c_wrong_line : Cal P w K mg base 8 "wrong_line" (toSp K d_wrong_line) []) (k_wrong_line : CalK P w K mg base 8 "wrong_line" ["text"] (toSp K d_wrong_line)) {C D : Addr} (Wx : Wz P w K mg base C D) (b_repr : mg "repr" = none) {f : Addr} {cdv : Value} {A : Around} {outer : List Env} {s : Shared} {H : Hp} {E : XK} (gd : A.guards = some []) (hr : Room 8 (A.deeper (envOfC "law" (defScope (top 50)) s.heap.objs.size f cdv))) : ∃ t, DSs (cxOf CX0 P w K mg base N_law "law" (defScope (top 50)) f cdv A outer s H E).nox (defBody (top 50)) t q_law := ⟨_, dss_cons (ds_for PassesOwn.never rfl (di_range1 rfl G.b_range (da_cons (dq_int) (da_nil))) (dg_name 1 (pg_name (i := 1) sc_law.nd rfl (by first | exact .inl rfl | exact .inr rfl))) (dss_cons (ds_setO 4 sc_law.nd (dq_c c__law_generator hr (by decide) rfl (da_cons (dq_var 0 (pv 0)) (da_cons (dq_var 1 (pv 1)) (da_nil))))) (dss_one (ds_for PassesOwn.never rfl (di_list (dq_cO 4 c__law_texts hr (by decide) rfl (pv 4) (da_cons (dq_cO 4 c__law_planes hr (by decide) rfl (pv 4) (da_nil)) (da_nil)))) (dg_name 5 (pg_name (i := 5) sc_law.nd rfl (by first | exact .inl rfl | exact .inr rfl))) (dss_cons (ds_set2 8 6 rfl sc_law.nd (dq_c c__law_wrong hr (by decide) rfl (da_cons (dq_var 5 (pv 5)) (da_nil))) (dq_non)) (dss_cons (ds_if (dt_cmp (op_neA hr.units) o2_ne (dq_callB (call_repr gd (uni hr)) oa_repr rfl b_repr (by decide +kernel) (da_cons (dq_lst (da_cons (dq_c c_wrong_line hr (by decide) rfl (da_cons (dq_var 5 (pv 5)) (da_nil))) (da_cons (dq_cK (qe := qVar 5) k_wrong_line hr (by decide) rfl (dq_var 5 (pv 5)) rfl rfl (by decide) rfl (da_cons (dq_var 5 (pv 5)) da_nil)) (da_nil)))) (da_nil))) (dq_callB (call_repr gd (uni hr)) oa_repr rfl b_repr (by decide +kernel) (da_cons (dq_lst (da_cons (dq_var 8 (pv 8)) (da_cons (dq_var 8 (pv 8)) (da_nil)))) (da_nil))) (nomark _)) (dss_one (ds_ret (dq_bl))) (dss_nil)) (tr1 Wx hr))))))) (dss_cons (ds_set 2 sc_law.nd (dq_add (dq_str) (dq_join (dq_str) (dq_lc (own := [("at", 9)]) (tt := tYes) (te := tOp (rAddA K) (tOp (rAddA K) (tC (.str "1 ")) (tCB rStrI (tCons (tVar 9) (tNil)))) (tC (.str "\n"))) (g := gName 9) rfl sc_law.nd (di_range1 rfl G.b_range (da_cons (dq_int) (da_nil))) (blkOk_by (N := N_law) (sc := defScope (top 50)) (own := [("at", 9)]) (by decide +kernel)) (fun _ _ _ _ _ => dg_name 9 (pg_name (i := 9) sc_law.nd rfl (by first | exact .inl rfl | exact .inr rfl))) (fun _ _ _ _ _ => dts_nil) (fun _ _ _ _ _ => dq_add (dq_add (dq_str) (dq_callTy cr_str oa_str rfl G.b_str (by decide +kernel) (da_cons (dq_var 9 (pv 9)) (da_nil)))) (dq_str)))))) (dss_cons (ds_if (DW.dt (dw_or (dt_cmp (op_neA hr.units) o2_ne (dq_c c_wrong_line hr (by decide) rfl (da_cons (dq_var 2 (pv 2)) (da_nil))) (dq_int) (nomark _)) (dw_or1 (dt_cmp op_notNR o2_notN (dq_c c_wrong_line hr (by decide) rfl (da_cons (dq_slice (dq_var 2 (pv 2)) (do_none) (do_some (dq_neg (dq_int)))) (da_nil))) (dq_non) (nomark _))))) (dss_one (ds_ret (dq_bl))) (dss_nil)) (dss_cons (tr2 G b_repr gd Wx hr) (dss_one (ds_ret (dq_bl))))))⟩
end K90
set_option Elab.async false
set_option linter.all false
set_option maxRecDepth 100000
set_option autoImplicit false
namespace K90
open PySem PySem.Spec PyProof.Rows L2 DL EX
def d_law : DSp := fun as R => ∃ ns : List Int, as = [.dt (.list (ns.map .int))] ∧ ns.length ≤ 63 ∧ ret (.bool true) R
/-! ### shown numbers -/
theorem shown_len {d : PyData} (h : d = .none ∨ ∃ i : Int, d = .int i ∧ i.natAbs < 10 ^ 30) : d.shown.length ≤ 31 ∧ d.showable = true ∧ d.depth = 0 ∧ d.hasDict = false := by
  rcases h with rfl | ⟨i, rfl, hi⟩
  · exact ⟨by decide +kernel, by decide +kernel, by decide +kernel, by decide +kernel⟩
  · refine ⟨?_, ?_, ?_, ?_⟩
    · rw [show (PyData.int i).shown = num i by simp [PyData.shown, num]]
      exact num_len hi
    · simp [PyData.showable]
      exact num_log hi
    · simp [PyData.depth]
    · simp [PyData.hasDict]
theorem two_len (a b : Str) : (listText [a, b]).length = a.length + b.length + 4 := by
  show ((("[" : Str) ++ ("" : Str) ++ a ++ (", " : Str) ++ b) ++ ("]" : Str)).length = _
  have e1 : ("[" : Str).length = 1 := by decide
  have e2 : ("" : Str).length = 0 := by decide
  have e3 : (", " : Str).length = 2 := by decide
  have e4 : ("]" : Str).length = 1 := by decide
  rw [str_app_len, str_app_len, str_app_len, str_app_len, str_app_len]
  omega
theorem show2 {d : PyData} (h : d = .none ∨ ∃ i : Int, d = .int i ∧ i.natAbs < 10 ^ 30) : (PyData.list [d, d]).showable = true ∧ (PyData.list [d, d]).depth ≤ 60 ∧ (PyData.list [d, d]).shown.length ≤ sizeLine ∧ (PyData.list [d, d]).hasDict = false := by
  obtain ⟨h1, h2, h3, h4⟩ := shown_len h
  refine ⟨by simp [PyData.showable, PyData.showableAll, h2], by simp [PyData.depth, PyData.depthAll, h3], ?_, by simp [PyData.hasDict, PyData.hasDictAll, h4]⟩
  have e : (PyData.list [d, d]).shown = listText [d.shown, d.shown] := by simp [PyData.shown, PyData.shownAll]
  rw [e, two_len]
  have : 100 ≤ sizeLine := by decide
  omega
theorem wr_le : ∀ (ls : List Str) (mo : Option Nat) (rs : List (List Fr)) (n k : Nat), wr mo rs n ls = some k → k ≤ n + ls.length
  | [], mo, rs, n, k, h => by cases mo <;> cases h
  | l :: ls, none, rs, n, k, h => by
    rw [wr_none] at h
    cases hd : dimT l with
    | none => rw [hd] at h; cases h; omega
    | some m =>
      rw [hd] at h
      have := wr_le ls _ _ _ _ h
      rw [List.length_cons]; omega
  | l :: ls, some m, rs, n, k, h => by
    rw [wr_some] at h
    cases hd : rt l with
    | none => rw [hd] at h; cases h; omega
    | some r =>
      rw [hd] at h
      by_cases hc : canF m rs r = true
      · simp only [hc, if_true] at h
        have := wr_le ls _ _ _ _ h
        rw [List.length_cons]; omega
      · simp only [hc] at h
        cases h; omega
theorem optN_small {z : Str} (h : TxOk z) : optN (wrongBy z) = .none ∨ ∃ i : Int, optN (wrongBy z) = .int i ∧ i.natAbs < 10 ^ 30 := by
  obtain ⟨l0, l1, l2⟩ := lines_facts h
  cases hw : wrongBy z with
  | none => exact .inl rfl
  | some k =>
    refine .inr ⟨k, rfl, ?_⟩
    have hk : k ≤ 100001 := by
      unfold wrongBy at hw
      cases hq : wr none [] 0 (linesOf z).dropLast with
      | some j =>
        rw [hq] at hw
        cases hw
        have := wr_le _ _ _ _ _ hq
        rw [List.length_dropLast] at this
        omega
      | none =>
        rw [hq] at hw
        simp only [] at hw
        split at hw
        · cases hw; omega
        · cases hw
    have : 100001 < 10 ^ 30 := by decide
    omega
/-! ### the full text -/
def fullT : Str := "dimensions 1\n1 0\n1 1\n1 2\n1 3\n1 4\n1 5\n1 6\n1 7\n1 8\n"
def fLine : PyData → PyData | .int k => .str ((("1 " : Str) ++ num k) ++ ("\n" : Str)) | _ => .none
def fLines : List Str := (List.range 9).map fun k => (("1 " : Str) ++ num (k : Nat)) ++ ("\n" : Str)
theorem fLines_eq : (rngD 0 9).map fLine = fLines.map .str := by
  unfold rngD fLines
  rw [List.map_map, List.map_map]
  refine List.map_congr_left fun k _ => ?_
  simp [fLine]
theorem full_eq : ("dimensions 1\n" : Str) ++ Txt.join ("" : Str) fLines = fullT := by decide +kernel
theorem full_ok : TxOk fullT := ⟨by decide +kernel, ascB (by decide +kernel)⟩
theorem cut_ok : TxOk (cutS fullT none (some (-4))) := ⟨by decide +kernel, ascB (by decide +kernel)⟩
theorem full_wrong : wrongBy fullT = some 9 := by decide +kernel
theorem cut_wrong : wrongBy (cutS fullT none (some (-4))) = none := by decide +kernel
end K90
set_option Elab.async false
set_option linter.all false
set_option maxRecDepth 100000
set_option autoImplicit false
namespace K90
open PySem PySem.Spec PyProof.Rows L2 DL EX
def IwO (ns : List Int) (ρ : List SD) : Prop := ∃ (s1 s4 s5 s6 s8 : SD), okP (some s1) = true ∧ okSlot (some s4) = true ∧ okP (some s5) = true ∧ okP (some s6) = true ∧ okP (some s8) = true ∧
  ρ = [.dt (.list (ns.map .int)), s1, .un, .un, s4, s5, s6, .un, s8, .un]
def IwJ (ns : List Int) (i : Int) (ρ : List SD) : Prop := ∃ (g : List PyData) (s5 s6 s8 : SD), okP (some s5) = true ∧ okP (some s6) = true ∧ okP (some s8) = true ∧
  ρ = [.dt (.list (ns.map .int)), .dt (.int i), .un, .un, .ow g, s5, s6, .un, s8, .un]
theorem p_law (as R) (h : d_law as R) : as.length = 1 ∧ q_law { nx := fun ρ => R (.dt .none) (pwOf ρ), rt := fun r ρ => R r (pwOf ρ) } (as ++ List.replicate (N_law.length - 1) .un) := by
  obtain ⟨ns, rfl, hl, h⟩ := h
  refine ⟨rfl, ?_⟩
  unfold q_law
  refine seq_i (fun ρ' => IwO ns ρ') (fun K hK => ?_) ?_
  · simp only [qFor, qR1_, qCons, qC, qNil, dat_dt, mI1_i]
    refine ⟨by decide, fun i ρ => IwO ns ρ, ⟨.un, .un, .un, .un, .un, rfl, rfl, rfl, rfl, rfl, rfl⟩, ?_, fun ρ hI => hK _ hI⟩
    rintro i d _ hd ⟨s1, s4, s5, s6, s8, o1, o4, o5, o6, o8, rfl⟩
    obtain ⟨hi, rfl⟩ := rngD_get hd
    have hi6 : i < 6 := hi
    refine ⟨o1, ?_⟩
    refine seq_i (fun ρ' => ∃ g, Gen 0 g ∧ ρ' = [.dt (.list (ns.map .int)), .dt (.int (0 + (i : Int))), .un, .un, .ow g, s5, s6, .un, s8, .un]) (fun K hK => ?_) ?_
    · simp [qVar_, qC, q2, q1, qTest_, qChain_, qAnd, qOr, qNot, qAndV_, qOrV_, qNotV_, qIf, qNil, qCons, qTup, qLst, qCB, qNext, qSeq, qRet, qRetN, qRetO_, qIfS, qAsg, qAsgO_, qPar, qParO_, qPar3, qPar3O_, qFrz_, qApN_, qStN_, qIxO_, qLend, qLendT, qNoPart, qPart_, qSl, qRevL_, qIsi_, qSplit_, qJoin_, qBits_, qIL_, qIT, qR1_, qR2_, qIS_, qIE_, qgN, qgNil, qgCons_, qgT_, qFor, qLc, qYes, qCall, qCallO_, kAdd, kI0_, kI_, kMul, kB0_, kEq, kNe, kIsN, kNotN, kIn, kNin, kLen_l, kLen_t, kLen_s, kAbs_, kMax2_, kInt_i, kInt_s, kStr_, kSum, kAll_, kAny_, kNeg_, dat_dt, dat_ow, dat_pw, toDt_dt, toDt_ow, toDt_pw, toDt_un, okSlot_dt, okSlot_ow, okSlot_un, okP_dt, okP_un, ownOf_ow, ownOf_pw, isN_n, isN_b, isN_i, isN_s, isN_l, isN_t, flatD_n, flatD_b, flatD_i, flatD_s, setOwn, ixq_l_, ixq_t_, ixq_s_, slq_l, slq_s, eqq_ii, eqq_ss, eqq_ll, eqq_tt, inn_l, inn_s, wipeR, freeV, mTup_t, mBool_b, mBoolS_b, mInt_i, mStr_s, mLst_l, mOpt_s, mOw_o, mOwn_o, mI1_i, mI2_i, mL1_l]
      refine ⟨ns, i, rfl, by omega, by omega, by omega, fun g ys hg => ?_⟩
      simp [qVar_, qC, q2, q1, qTest_, qChain_, qAnd, qOr, qNot, qAndV_, qOrV_, qNotV_, qIf, qNil, qCons, qTup, qLst, qCB, qNext, qSeq, qRet, qRetN, qRetO_, qIfS, qAsg, qAsgO_, qPar, qParO_, qPar3, qPar3O_, qFrz_, qApN_, qStN_, qIxO_, qLend, qLendT, qNoPart, qPart_, qSl, qRevL_, qIsi_, qSplit_, qJoin_, qBits_, qIL_, qIT, qR1_, qR2_, qIS_, qIE_, qgN, qgNil, qgCons_, qgT_, qFor, qLc, qYes, qCall, qCallO_, kAdd, kI0_, kI_, kMul, kB0_, kEq, kNe, kIsN, kNotN, kIn, kNin, kLen_l, kLen_t, kLen_s, kAbs_, kMax2_, kInt_i, kInt_s, kStr_, kSum, kAll_, kAny_, kNeg_, dat_dt, dat_ow, dat_pw, toDt_dt, toDt_ow, toDt_pw, toDt_un, okSlot_dt, okSlot_ow, okSlot_un, okP_dt, okP_un, ownOf_ow, ownOf_pw, isN_n, isN_b, isN_i, isN_s, isN_l, isN_t, flatD_n, flatD_b, flatD_i, flatD_s, setOwn, ixq_l_, ixq_t_, ixq_s_, slq_l, slq_s, eqq_ii, eqq_ss, eqq_ll, eqq_tt, inn_l, inn_s, wipeR, freeV, mTup_t, mBool_b, mBoolS_b, mInt_i, mStr_s, mLst_l, mOpt_s, mOw_o, mOwn_o, mI1_i, mI2_i, mL1_l]
      exact ⟨o4, hK _ ⟨g, hg, by simp⟩⟩
    rintro _ ⟨g, hg, rfl⟩
    show qFor _ _ _ _ _
    unfold qFor
    simp [qVar_, qC, q2, q1, qTest_, qChain_, qAnd, qOr, qNot, qAndV_, qOrV_, qNotV_, qIf, qNil, qCons, qTup, qLst, qCB, qNext, qSeq, qRet, qRetN, qRetO_, qIfS, qAsg, qAsgO_, qPar, qParO_, qPar3, qPar3O_, qFrz_, qApN_, qStN_, qIxO_, qLend, qLendT, qNoPart, qPart_, qSl, qRevL_, qIsi_, qSplit_, qJoin_, qBits_, qIL_, qIT, qR1_, qR2_, qIS_, qIE_, qgN, qgNil, qgCons_, qgT_, qFor, qLc, qYes, qCall, qCallO_, kAdd, kI0_, kI_, kMul, kB0_, kEq, kNe, kIsN, kNotN, kIn, kNin, kLen_l, kLen_t, kLen_s, kAbs_, kMax2_, kInt_i, kInt_s, kStr_, kSum, kAll_, kAny_, kNeg_, dat_dt, dat_ow, dat_pw, toDt_dt, toDt_ow, toDt_pw, toDt_un, okSlot_dt, okSlot_ow, okSlot_un, okP_dt, okP_un, ownOf_ow, ownOf_pw, isN_n, isN_b, isN_i, isN_s, isN_l, isN_t, flatD_n, flatD_b, flatD_i, flatD_s, setOwn, ixq_l_, ixq_t_, ixq_s_, slq_l, slq_s, eqq_ii, eqq_ss, eqq_ll, eqq_tt, inn_l, inn_s, wipeR, freeV, mTup_t, mBool_b, mBoolS_b, mInt_i, mStr_s, mLst_l, mOpt_s, mOw_o, mOwn_o, mI1_i, mI2_i, mL1_l]
    refine ⟨0, g, rfl, by decide, hg, fun m rows g1 hP hg1 => ?_⟩
    simp [qVar_, qC, q2, q1, qTest_, qChain_, qAnd, qOr, qNot, qAndV_, qOrV_, qNotV_, qIf, qNil, qCons, qTup, qLst, qCB, qNext, qSeq, qRet, qRetN, qRetO_, qIfS, qAsg, qAsgO_, qPar, qParO_, qPar3, qPar3O_, qFrz_, qApN_, qStN_, qIxO_, qLend, qLendT, qNoPart, qPart_, qSl, qRevL_, qIsi_, qSplit_, qJoin_, qBits_, qIL_, qIT, qR1_, qR2_, qIS_, qIE_, qgN, qgNil, qgCons_, qgT_, qFor, qLc, qYes, qCall, qCallO_, kAdd, kI0_, kI_, kMul, kB0_, kEq, kNe, kIsN, kNotN, kIn, kNin, kLen_l, kLen_t, kLen_s, kAbs_, kMax2_, kInt_i, kInt_s, kStr_, kSum, kAll_, kAny_, kNeg_, dat_dt, dat_ow, dat_pw, toDt_dt, toDt_ow, toDt_pw, toDt_un, okSlot_dt, okSlot_ow, okSlot_un, okP_dt, okP_un, ownOf_ow, ownOf_pw, isN_n, isN_b, isN_i, isN_s, isN_l, isN_t, flatD_n, flatD_b, flatD_i, flatD_s, setOwn, ixq_l_, ixq_t_, ixq_s_, slq_l, slq_s, eqq_ii, eqq_ss, eqq_ll, eqq_tt, inn_l, inn_s, wipeR, freeV, mTup_t, mBool_b, mBoolS_b, mInt_i, mStr_s, mLst_l, mOpt_s, mOw_o, mOwn_o, mI1_i, mI2_i, mL1_l]
    refine ⟨100, m, g1, rows, rfl, by decide, hg1, hP, fun zs g2 hz ht => ?_⟩
    simp [qVar_, qC, q2, q1, qTest_, qChain_, qAnd, qOr, qNot, qAndV_, qOrV_, qNotV_, qIf, qNil, qCons, qTup, qLst, qCB, qNext, qSeq, qRet, qRetN, qRetO_, qIfS, qAsg, qAsgO_, qPar, qParO_, qPar3, qPar3O_, qFrz_, qApN_, qStN_, qIxO_, qLend, qLendT, qNoPart, qPart_, qSl, qRevL_, qIsi_, qSplit_, qJoin_, qBits_, qIL_, qIT, qR1_, qR2_, qIS_, qIE_, qgN, qgNil, qgCons_, qgT_, qFor, qLc, qYes, qCall, qCallO_, kAdd, kI0_, kI_, kMul, kB0_, kEq, kNe, kIsN, kNotN, kIn, kNin, kLen_l, kLen_t, kLen_s, kAbs_, kMax2_, kInt_i, kInt_s, kStr_, kSum, kAll_, kAny_, kNeg_, dat_dt, dat_ow, dat_pw, toDt_dt, toDt_ow, toDt_pw, toDt_un, okSlot_dt, okSlot_ow, okSlot_un, okP_dt, okP_un, ownOf_ow, ownOf_pw, isN_n, isN_b, isN_i, isN_s, isN_l, isN_t, flatD_n, flatD_b, flatD_i, flatD_s, setOwn, ixq_l_, ixq_t_, ixq_s_, slq_l, slq_s, eqq_ii, eqq_ss, eqq_ll, eqq_tt, inn_l, inn_s, wipeR, freeV, mTup_t, mBool_b, mBoolS_b, mInt_i, mStr_s, mLst_l, mOpt_s, mOw_o, mOwn_o, mI1_i, mI2_i, mL1_l]
    refine ⟨fun j ρ => IwJ ns i ρ, ⟨g2, s5, s6, s8, o5, o6, o8, rfl⟩, ?_, ?_⟩
    · rintro j d _ hd ⟨g3, t5, t6, t8, o5, o6, o8, rfl⟩
      obtain ⟨z, hz', rfl⟩ := List.mem_map.mp (List.mem_of_getElem? hd)
      have htz := ht z hz'
      refine ⟨o5, ?_⟩
      refine seq_i (fun ρ' => ρ' = [.dt (.list (ns.map .int)), .dt (.int (i : Int)), .un, .un, .ow g3, .dt (.str z), .dt .none, .un, .dt (optN (wrongBy z)), .un]) (fun K hK => ?_) ?_
      · simp [qVar_, qC, q2, q1, qTest_, qChain_, qAnd, qOr, qNot, qAndV_, qOrV_, qNotV_, qIf, qNil, qCons, qTup, qLst, qCB, qNext, qSeq, qRet, qRetN, qRetO_, qIfS, qAsg, qAsgO_, qPar, qParO_, qPar3, qPar3O_, qFrz_, qApN_, qStN_, qIxO_, qLend, qLendT, qNoPart, qPart_, qSl, qRevL_, qIsi_, qSplit_, qJoin_, qBits_, qIL_, qIT, qR1_, qR2_, qIS_, qIE_, qgN, qgNil, qgCons_, qgT_, qFor, qLc, qYes, qCall, qCallO_, kAdd, kI0_, kI_, kMul, kB0_, kEq, kNe, kIsN, kNotN, kIn, kNin, kLen_l, kLen_t, kLen_s, kAbs_, kMax2_, kInt_i, kInt_s, kStr_, kSum, kAll_, kAny_, kNeg_, dat_dt, dat_ow, dat_pw, toDt_dt, toDt_ow, toDt_pw, toDt_un, okSlot_dt, okSlot_ow, okSlot_un, okP_dt, okP_un, ownOf_ow, ownOf_pw, isN_n, isN_b, isN_i, isN_s, isN_l, isN_t, flatD_n, flatD_b, flatD_i, flatD_s, setOwn, ixq_l_, ixq_t_, ixq_s_, slq_l, slq_s, eqq_ii, eqq_ss, eqq_ll, eqq_tt, inn_l, inn_s, wipeR, freeV, mTup_t, mBool_b, mBoolS_b, mInt_i, mStr_s, mLst_l, mOpt_s, mOw_o, mOwn_o, mI1_i, mI2_i, mL1_l]
        exact ⟨z, rfl, htz, fun ys => ⟨okSlot_of o8, okSlot_of o6, hK _ rfl⟩⟩
      rintro _ rfl
      refine seq_i (fun ρ' => ρ' = [.dt (.list (ns.map .int)), .dt (.int (i : Int)), .un, .un, .ow g3, .dt (.str z), .dt .none, .un, .dt (optN (wrongBy z)), .un]) (fun K hK => ?_) ?_
      · obtain ⟨w1, w2, w3, w4⟩ := show2 (optN_small htz)
        simp [qVar_, qC, q2, q1, qTest_, qChain_, qAnd, qOr, qNot, qAndV_, qOrV_, qNotV_, qIf, qNil, qCons, qTup, qLst, qCB, qNext, qSeq, qRet, qRetN, qRetO_, qIfS, qAsg, qAsgO_, qPar, qParO_, qPar3, qPar3O_, qFrz_, qApN_, qStN_, qIxO_, qLend, qLendT, qNoPart, qPart_, qSl, qRevL_, qIsi_, qSplit_, qJoin_, qBits_, qIL_, qIT, qR1_, qR2_, qIS_, qIE_, qgN, qgNil, qgCons_, qgT_, qFor, qLc, qYes, qCall, qCallO_, kAdd, kI0_, kI_, kMul, kB0_, kEq, kNe, kIsN, kNotN, kIn, kNin, kLen_l, kLen_t, kLen_s, kAbs_, kMax2_, kInt_i, kInt_s, kStr_, kSum, kAll_, kAny_, kNeg_, dat_dt, dat_ow, dat_pw, toDt_dt, toDt_ow, toDt_pw, toDt_un, okSlot_dt, okSlot_ow, okSlot_un, okP_dt, okP_un, ownOf_ow, ownOf_pw, isN_n, isN_b, isN_i, isN_s, isN_l, isN_t, flatD_n, flatD_b, flatD_i, flatD_s, setOwn, ixq_l_, ixq_t_, ixq_s_, slq_l, slq_s, eqq_ii, eqq_ss, eqq_ll, eqq_tt, inn_l, inn_s, wipeR, freeV, mTup_t, mBool_b, mBoolS_b, mInt_i, mStr_s, mLst_l, mOpt_s, mOw_o, mOwn_o, mI1_i, mI2_i, mL1_l]
        refine ⟨z, rfl, htz, fun ys => ⟨z, rfl, htz, fun ys => ⟨by decide, _, rfl, w1, w2, w3, w4, ?_⟩⟩⟩
        simp [qVar_, qC, q2, q1, qTest_, qChain_, qAnd, qOr, qNot, qAndV_, qOrV_, qNotV_, qIf, qNil, qCons, qTup, qLst, qCB, qNext, qSeq, qRet, qRetN, qRetO_, qIfS, qAsg, qAsgO_, qPar, qParO_, qPar3, qPar3O_, qFrz_, qApN_, qStN_, qIxO_, qLend, qLendT, qNoPart, qPart_, qSl, qRevL_, qIsi_, qSplit_, qJoin_, qBits_, qIL_, qIT, qR1_, qR2_, qIS_, qIE_, qgN, qgNil, qgCons_, qgT_, qFor, qLc, qYes, qCall, qCallO_, kAdd, kI0_, kI_, kMul, kB0_, kEq, kNe, kIsN, kNotN, kIn, kNin, kLen_l, kLen_t, kLen_s, kAbs_, kMax2_, kInt_i, kInt_s, kStr_, kSum, kAll_, kAny_, kNeg_, dat_dt, dat_ow, dat_pw, toDt_dt, toDt_ow, toDt_pw, toDt_un, okSlot_dt, okSlot_ow, okSlot_un, okP_dt, okP_un, ownOf_ow, ownOf_pw, isN_n, isN_b, isN_i, isN_s, isN_l, isN_t, flatD_n, flatD_b, flatD_i, flatD_s, setOwn, ixq_l_, ixq_t_, ixq_s_, slq_l, slq_s, eqq_ii, eqq_ss, eqq_ll, eqq_tt, inn_l, inn_s, wipeR, freeV, mTup_t, mBool_b, mBoolS_b, mInt_i, mStr_s, mLst_l, mOpt_s, mOw_o, mOwn_o, mI1_i, mI2_i, mL1_l]
        refine ⟨by decide, _, rfl, w1, w2, w3, w4, ?_⟩
        simp [qVar_, qC, q2, q1, qTest_, qChain_, qAnd, qOr, qNot, qAndV_, qOrV_, qNotV_, qIf, qNil, qCons, qTup, qLst, qCB, qNext, qSeq, qRet, qRetN, qRetO_, qIfS, qAsg, qAsgO_, qPar, qParO_, qPar3, qPar3O_, qFrz_, qApN_, qStN_, qIxO_, qLend, qLendT, qNoPart, qPart_, qSl, qRevL_, qIsi_, qSplit_, qJoin_, qBits_, qIL_, qIT, qR1_, qR2_, qIS_, qIE_, qgN, qgNil, qgCons_, qgT_, qFor, qLc, qYes, qCall, qCallO_, kAdd, kI0_, kI_, kMul, kB0_, kEq, kNe, kIsN, kNotN, kIn, kNin, kLen_l, kLen_t, kLen_s, kAbs_, kMax2_, kInt_i, kInt_s, kStr_, kSum, kAll_, kAny_, kNeg_, dat_dt, dat_ow, dat_pw, toDt_dt, toDt_ow, toDt_pw, toDt_un, okSlot_dt, okSlot_ow, okSlot_un, okP_dt, okP_un, ownOf_ow, ownOf_pw, isN_n, isN_b, isN_i, isN_s, isN_l, isN_t, flatD_n, flatD_b, flatD_i, flatD_s, setOwn, ixq_l_, ixq_t_, ixq_s_, slq_l, slq_s, eqq_ii, eqq_ss, eqq_ll, eqq_tt, inn_l, inn_s, wipeR, freeV, mTup_t, mBool_b, mBoolS_b, mInt_i, mStr_s, mLst_l, mOpt_s, mOw_o, mOwn_o, mI1_i, mI2_i, mL1_l]
        exact hK _ rfl
      rintro _ rfl
      refine ⟨z, rfl, rfl, rfl, rfl, htz, g3, .dt (.str z), .un, .dt (optN (wrongBy z)), rfl, rfl, rfl, rfl⟩
    · rintro _ ⟨g3, t5, t6, t8, o5, o6, o8, rfl⟩
      exact ⟨.dt (.int i), .ow g3, t5, t6, t8, rfl, rfl, o5, o6, o8, rfl⟩
  rintro _ ⟨s1, s4, s5, s6, s8, o1, o4, o5, o6, o8, rfl⟩
  refine seq_i (fun ρ' => ρ' = [.dt (.list (ns.map .int)), s1, .dt (.str fullT), .un, s4, s5, s6, .un, s8, .un]) (fun K hK => ?_) ?_
  · simp [qVar_, qC, q2, q1, qTest_, qChain_, qAnd, qOr, qNot, qAndV_, qOrV_, qNotV_, qIf, qNil, qCons, qTup, qLst, qCB, qNext, qSeq, qRet, qRetN, qRetO_, qIfS, qAsg, qAsgO_, qPar, qParO_, qPar3, qPar3O_, qFrz_, qApN_, qStN_, qIxO_, qLend, qLendT, qNoPart, qPart_, qSl, qRevL_, qIsi_, qSplit_, qJoin_, qBits_, qIL_, qIT, qR1_, qR2_, qIS_, qIE_, qgN, qgNil, qgCons_, qgT_, qFor, qLc, qYes, qCall, qCallO_, kAdd, kI0_, kI_, kMul, kB0_, kEq, kNe, kIsN, kNotN, kIn, kNin, kLen_l, kLen_t, kLen_s, kAbs_, kMax2_, kInt_i, kInt_s, kStr_, kSum, kAll_, kAny_, kNeg_, dat_dt, dat_ow, dat_pw, toDt_dt, toDt_ow, toDt_pw, toDt_un, okSlot_dt, okSlot_ow, okSlot_un, okP_dt, okP_un, ownOf_ow, ownOf_pw, isN_n, isN_b, isN_i, isN_s, isN_l, isN_t, flatD_n, flatD_b, flatD_i, flatD_s, setOwn, ixq_l_, ixq_t_, ixq_s_, slq_l, slq_s, eqq_ii, eqq_ss, eqq_ll, eqq_tt, inn_l, inn_s, wipeR, freeV, mTup_t, mBool_b, mBoolS_b, mInt_i, mStr_s, mLst_l, mOpt_s, mOw_o, mOwn_o, mI1_i, mI2_i, mL1_l]
    refine lc_map rfl (by rw [rngD_len]; decide) rfl fLine ?_ ?_
    · intro d hd Y hY
      obtain ⟨k, hk, rfl⟩ := List.mem_map.mp hd
      have hk9 : k < 9 := List.mem_range.mp hk
      simp [qVar_, qC, q2, q1, qTest_, qChain_, qAnd, qOr, qNot, qAndV_, qOrV_, qNotV_, qIf, qNil, qCons, qTup, qLst, qCB, qNext, qSeq, qRet, qRetN, qRetO_, qIfS, qAsg, qAsgO_, qPar, qParO_, qPar3, qPar3O_, qFrz_, qApN_, qStN_, qIxO_, qLend, qLendT, qNoPart, qPart_, qSl, qRevL_, qIsi_, qSplit_, qJoin_, qBits_, qIL_, qIT, qR1_, qR2_, qIS_, qIE_, qgN, qgNil, qgCons_, qgT_, qFor, qLc, qYes, qCall, qCallO_, kAdd, kI0_, kI_, kMul, kB0_, kEq, kNe, kIsN, kNotN, kIn, kNin, kLen_l, kLen_t, kLen_s, kAbs_, kMax2_, kInt_i, kInt_s, kStr_, kSum, kAll_, kAny_, kNeg_, dat_dt, dat_ow, dat_pw, toDt_dt, toDt_ow, toDt_pw, toDt_un, okSlot_dt, okSlot_ow, okSlot_un, okP_dt, okP_un, ownOf_ow, ownOf_pw, isN_n, isN_b, isN_i, isN_s, isN_l, isN_t, flatD_n, flatD_b, flatD_i, flatD_s, setOwn, ixq_l_, ixq_t_, ixq_s_, slq_l, slq_s, eqq_ii, eqq_ss, eqq_ll, eqq_tt, inn_l, inn_s, wipeR, freeV, mTup_t, mBool_b, mBoolS_b, mInt_i, mStr_s, mLst_l, mOpt_s, mOw_o, mOwn_o, mI1_i, mI2_i, mL1_l]
      have hlog : ((k : Int)).natAbs.log2 < 1920 := num_log (by omega)
      have l1 : (num (k : Int)).length ≤ 31 := num_len (by omega)
      have l2 : (Str.ofString "1 ").length = 2 := by decide
      have l3 : (Str.ofString "\n").length = 1 := by decide
      have en : Str.ofString ((k : Int)).repr = num k := rfl
      have z : 100 ≤ sizeLine := by decide
      rw [en, str_app_len, l2, l3]
      have hY' : Y (fLine (.int (k : Int))) := by simpa using hY
      exact ⟨hlog, by omega, by omega, hY'⟩
    · rw [fLines_eq]
      simp only [dat_ow]
      refine ⟨fLines, rfl, by decide +kernel, ?_⟩
      simp [qVar_, qC, q2, q1, qTest_, qChain_, qAnd, qOr, qNot, qAndV_, qOrV_, qNotV_, qIf, qNil, qCons, qTup, qLst, qCB, qNext, qSeq, qRet, qRetN, qRetO_, qIfS, qAsg, qAsgO_, qPar, qParO_, qPar3, qPar3O_, qFrz_, qApN_, qStN_, qIxO_, qLend, qLendT, qNoPart, qPart_, qSl, qRevL_, qIsi_, qSplit_, qJoin_, qBits_, qIL_, qIT, qR1_, qR2_, qIS_, qIE_, qgN, qgNil, qgCons_, qgT_, qFor, qLc, qYes, qCall, qCallO_, kAdd, kI0_, kI_, kMul, kB0_, kEq, kNe, kIsN, kNotN, kIn, kNin, kLen_l, kLen_t, kLen_s, kAbs_, kMax2_, kInt_i, kInt_s, kStr_, kSum, kAll_, kAny_, kNeg_, dat_dt, dat_ow, dat_pw, toDt_dt, toDt_ow, toDt_pw, toDt_un, okSlot_dt, okSlot_ow, okSlot_un, okP_dt, okP_un, ownOf_ow, ownOf_pw, isN_n, isN_b, isN_i, isN_s, isN_l, isN_t, flatD_n, flatD_b, flatD_i, flatD_s, setOwn, ixq_l_, ixq_t_, ixq_s_, slq_l, slq_s, eqq_ii, eqq_ss, eqq_ll, eqq_tt, inn_l, inn_s, wipeR, freeV, mTup_t, mBool_b, mBoolS_b, mInt_i, mStr_s, mLst_l, mOpt_s, mOw_o, mOwn_o, mI1_i, mI2_i, mL1_l]
      rw [full_eq]
      exact ⟨by decide +kernel, hK _ rfl⟩
  rintro _ rfl
  refine seq_i (fun ρ' => ρ' = [.dt (.list (ns.map .int)), s1, .dt (.str fullT), .un, s4, s5, s6, .un, s8, .un]) (fun K hK => ?_) ?_
  · simp [qVar_, qC, q2, q1, qTest_, qChain_, qAnd, qOr, qNot, qAndV_, qOrV_, qNotV_, qIf, qNil, qCons, qTup, qLst, qCB, qNext, qSeq, qRet, qRetN, qRetO_, qIfS, qAsg, qAsgO_, qPar, qParO_, qPar3, qPar3O_, qFrz_, qApN_, qStN_, qIxO_, qLend, qLendT, qNoPart, qPart_, qSl, qRevL_, qIsi_, qSplit_, qJoin_, qBits_, qIL_, qIT, qR1_, qR2_, qIS_, qIE_, qgN, qgNil, qgCons_, qgT_, qFor, qLc, qYes, qCall, qCallO_, kAdd, kI0_, kI_, kMul, kB0_, kEq, kNe, kIsN, kNotN, kIn, kNin, kLen_l, kLen_t, kLen_s, kAbs_, kMax2_, kInt_i, kInt_s, kStr_, kSum, kAll_, kAny_, kNeg_, dat_dt, dat_ow, dat_pw, toDt_dt, toDt_ow, toDt_pw, toDt_un, okSlot_dt, okSlot_ow, okSlot_un, okP_dt, okP_un, ownOf_ow, ownOf_pw, isN_n, isN_b, isN_i, isN_s, isN_l, isN_t, flatD_n, flatD_b, flatD_i, flatD_s, setOwn, ixq_l_, ixq_t_, ixq_s_, slq_l, slq_s, eqq_ii, eqq_ss, eqq_ll, eqq_tt, inn_l, inn_s, wipeR, freeV, mTup_t, mBool_b, mBoolS_b, mInt_i, mStr_s, mLst_l, mOpt_s, mOw_o, mOwn_o, mI1_i, mI2_i, mL1_l]
    refine ⟨fullT, rfl, full_ok, fun ys => ?_⟩
    rw [full_wrong]
    simp [qVar_, qC, q2, q1, qTest_, qChain_, qAnd, qOr, qNot, qAndV_, qOrV_, qNotV_, qIf, qNil, qCons, qTup, qLst, qCB, qNext, qSeq, qRet, qRetN, qRetO_, qIfS, qAsg, qAsgO_, qPar, qParO_, qPar3, qPar3O_, qFrz_, qApN_, qStN_, qIxO_, qLend, qLendT, qNoPart, qPart_, qSl, qRevL_, qIsi_, qSplit_, qJoin_, qBits_, qIL_, qIT, qR1_, qR2_, qIS_, qIE_, qgN, qgNil, qgCons_, qgT_, qFor, qLc, qYes, qCall, qCallO_, kAdd, kI0_, kI_, kMul, kB0_, kEq, kNe, kIsN, kNotN, kIn, kNin, kLen_l, kLen_t, kLen_s, kAbs_, kMax2_, kInt_i, kInt_s, kStr_, kSum, kAll_, kAny_, kNeg_, dat_dt, dat_ow, dat_pw, toDt_dt, toDt_ow, toDt_pw, toDt_un, okSlot_dt, okSlot_ow, okSlot_un, okP_dt, okP_un, ownOf_ow, ownOf_pw, isN_n, isN_b, isN_i, isN_s, isN_l, isN_t, flatD_n, flatD_b, flatD_i, flatD_s, setOwn, ixq_l_, ixq_t_, ixq_s_, slq_l, slq_s, eqq_ii, eqq_ss, eqq_ll, eqq_tt, inn_l, inn_s, wipeR, freeV, mTup_t, mBool_b, mBoolS_b, mInt_i, mStr_s, mLst_l, mOpt_s, mOw_o, mOwn_o, mI1_i, mI2_i, mL1_l, optN]
    refine ⟨by decide +kernel, _, rfl, cut_ok, fun ys => ?_⟩
    rw [cut_wrong]
    exact hK _ rfl
  rintro _ rfl
  refine ⟨rfl, o6, rfl, ?_⟩
  simp [qVar_, qC, q2, q1, qTest_, qChain_, qAnd, qOr, qNot, qAndV_, qOrV_, qNotV_, qIf, qNil, qCons, qTup, qLst, qCB, qNext, qSeq, qRet, qRetN, qRetO_, qIfS, qAsg, qAsgO_, qPar, qParO_, qPar3, qPar3O_, qFrz_, qApN_, qStN_, qIxO_, qLend, qLendT, qNoPart, qPart_, qSl, qRevL_, qIsi_, qSplit_, qJoin_, qBits_, qIL_, qIT, qR1_, qR2_, qIS_, qIE_, qgN, qgNil, qgCons_, qgT_, qFor, qLc, qYes, qCall, qCallO_, kAdd, kI0_, kI_, kMul, kB0_, kEq, kNe, kIsN, kNotN, kIn, kNin, kLen_l, kLen_t, kLen_s, kAbs_, kMax2_, kInt_i, kInt_s, kStr_, kSum, kAll_, kAny_, kNeg_, dat_dt, dat_ow, dat_pw, toDt_dt, toDt_ow, toDt_pw, toDt_un, okSlot_dt, okSlot_ow, okSlot_un, okP_dt, okP_un, ownOf_ow, ownOf_pw, isN_n, isN_b, isN_i, isN_s, isN_l, isN_t, flatD_n, flatD_b, flatD_i, flatD_s, setOwn, ixq_l_, ixq_t_, ixq_s_, slq_l, slq_s, eqq_ii, eqq_ss, eqq_ll, eqq_tt, inn_l, inn_s, wipeR, freeV, mTup_t, mBool_b, mBoolS_b, mInt_i, mStr_s, mLst_l, mOpt_s, mOw_o, mOwn_o, mI1_i, mI2_i, mL1_l]
  exact h _
end K90
set_option Elab.async false
set_option linter.all false
set_option maxRecDepth 100000
set_option autoImplicit false
set_option maxHeartbeats 4000000
namespace K90
open PySem PySem.Spec PyProof.Rows L2 DL EX EXH EXW He
open C8 (Cal)
section
variable {w : World} {K : PySem.W.Frag} {mg : Str → Option Value} {h base : Heap}
/-- the exception class -/
theorem rzH (X : K.In h) (Gn : h.Ns mainGlobals mg) (c : SaysD faH fnH K) (ex : exH K = true) (fi : fnI K (ma K (ga K "PlaneError") "__init__") = fiH) (g : mg "InvalidText" = some (.ref (ga K "InvalidText"))) (s0 : mg "super" = none) : Rz PP w K mg base "InvalidText" (ga K "InvalidText") (ga K "PlaneError") := by
  have e1 := exB_ok (ba (ba ex).2).1
  obtain ⟨fd, hi⟩ := iniBo_ok (ba (ba ex).2).2 fi
  refine ⟨g, e1.ex, e1.xf, e1.te, ma K (ga K "PlaneError") "__init__", fd, e1.ini, e1.fn, ini_ok hi s0 ⟨_, rfl, rfl⟩ (fun env => ⟨_, rfl⟩), fun s us inS hl => ?_⟩
  obtain ⟨oc, od, osl, dV, kV, doc, pm, an, ct, cc, cda, c1, c2, c3, vs, file, tf, d1, d2, d3, e, _⟩ := hi.ex
  subst e
  rcases hi.dfl with ⟨z, _⟩ | ⟨_, T, o, its, n, eT, lT, oT, rT⟩
  · cases z
  · have eV : dV = .ref T := eT
    subst eV
    cases rT with
    | @cons _ u0 _ ur r0 rn =>
      cases rn
      match us, hl with
      | [a, b], _ => exact PySem.W.binds_K inS rfl lT oT rfl rfl
theorem kb_one {st : Stmt} {x : Str} {f : Addr} {fd : FuncData} (F : FunD K x x (defArgs st) (defBody st) (defScope st) [] [] f fd) (ps : Str)
    (h1 : ∀ (dV kV doc pm : Value) (an : Option Addr) (cdv ct u : Value), bindArgs (PySem.W.fnOf x x (defArgs st) (defBody st) (defScope st) .none kV doc pm an cdv ct) ⟨[u], []⟩ = pure [(ps, u)])
    (h2 : ∀ (dV kV doc pm : Value) (an : Option Addr) (cdv ct u : Value), bindArgs (PySem.W.fnOf x x (defArgs st) (defBody st) (defScope st) .none kV doc pm an cdv ct) ⟨[], [(ps, u)]⟩ = pure [(ps, u)]) :
    KBinds K fd [ps] [ps] (fun us ws => us ++ ws ++ []) (fun vs zs => vs ++ zs ++ []) := by
  obtain ⟨oc, od, dV, kV, doc, pm, an, cdv, ct, osl, rfl, lk, hcd, hD, hK⟩ := F.ex
  have eD : dV = .none := hD.elim (·.2) fun z => absurd rfl z.1
  subst eD
  refine ⟨fun s us ws inS hl => ?_, fun r1 r2 => (r1.append r2).append .nil⟩
  match us, ws, hl with
  | [u], [], _ => exact BindsTo.of_eq (h1 .none kV doc pm an cdv ct u)
  | [], [u], _ => exact BindsTo.of_eq (h2 .none kV doc pm an cdv ct u)
  | [], [], hl => simp at hl
  | [], _ :: _ :: _, hl => simp at hl
  | _ :: _, _ :: _, hl => simp at hl
  | _ :: _ :: _, [], hl => simp at hl
theorem runL (X : K.In h) (Gn : h.Ns mainGlobals mg) (c : SaysD faH fnH K) (ex : exH K = true) (fi : fnI K (ma K (ga K "PlaneError") "__init__") = fiH) {f : Addr} {fd : FuncData} (Fl : FunD K "law" "law" (defArgs (top 50)) (defBody (top 50)) (defScope (top 50)) [] [] f fd) : RunC PP w K mg base f fd "script" (toSp K d_law) := by
  have G := gmH X Gn c ex
  have CS : Cs PP w K mg base := csH X Gn c G
  have Z : Rz PP w K mg base "InvalidText" (ga K "InvalidText") (ga K "PlaneError") := rzH X Gn c ex fi (glo_ok X Gn (c.fact 40 (f := .glo "InvalidText") rfl)) (free_ok X Gn (c.fact 56 (f := .free "super") rfl))
  have b_repr := free_ok X Gn (c.fact 53 (f := .free "repr") rfl)
  obtain ⟨fw, Fw⟩ := c.def_ 16 (d := dH_wrong_line) rfl
  have gw := glo_ok X Gn (c.fact 16 (f := .glo "wrong_line") rfl)
  obtain ⟨fr, Fr⟩ := c.def_ 17 (d := dH_read_planes) rfl
  have gr := glo_ok X Gn (c.fact 17 (f := .glo "read_planes") rfl)
  have Fw' : FunD K "wrong_line" "wrong_line" (defArgs (top 27)) (defBody (top 27)) (defScope (top 27)) [] [] (ga K "wrong_line") fw := Fw
  have Fr' : FunD K "read_planes" "read_planes" (defArgs (top 28)) (defBody (top 28)) (defScope (top 28)) [] [] (ga K "read_planes") fr := Fr
  have bw : Binds K fw ["text"] [] := (He5.fun_of Fw').binds fun _ _ _ _ _ _ us hl => match us, hl with | [_], _ => rfl
  have br : Binds K fr ["text"] [] := (He5.fun_of Fr').binds fun _ _ _ _ _ _ us hl => match us, hl with | [_], _ => rfl
  have nw : FnOk PP w K mg base CX0 8 (ga K "wrong_line") fw ["text"] (toSp K d_wrong_line) := fn_dl Fw' sc_wrong_line 1 rfl (fun cdv A outer s H E hr => der_wrong_line G CS.c_wrong_by Z hr) p_wrong_line
  have nr : FnOk PP w K mg base CX0 8 (ga K "read_planes") fr ["text"] (toSp K d_read_planes) := fn_dl Fr' sc_read_planes 1 rfl (fun cdv A outer s H E hr => der_read_planes G CS.c_wrong_by CS.c_dimensions_told CS.c_row_told Z hr) p_read_planes
  have cw : Cal PP w K mg base 8 "wrong_line" (toSp K d_wrong_line) [] := ⟨_, fw, ["text"], [], nw, gw, Fw'.kp, bw, .nil⟩
  have kw : CalK PP w K mg base 8 "wrong_line" ["text"] (toSp K d_wrong_line) := ⟨_, fw, ["text"], nw, gw, Fw'.kp, kb_one Fw' "text" (fun _ _ _ _ _ _ _ _ => rfl) (fun _ _ _ _ _ _ _ _ => rfl)⟩
  have Wx : Wz PP w K mg base (ga K "InvalidText") (ga K "PlaneError") := ⟨Z, ⟨_, fr, rp_raises Fr' G Z CS.c_wrong_by CS.c_dimensions_told CS.c_row_told nr, gr, Fr'.kp, br⟩, ⟨_, fw, wl_raises Fw' G Z CS.c_wrong_by, gw, Fw'.kp, bw⟩⟩
  refine runC_of Fl sc_law (k := 8) ⟨rfl, by decide, by decide⟩ fun cdv s H v Q hr hsp => ?_
  obtain ⟨t, Dl⟩ := der_law G CS.c__law_generator CS.c__law_texts CS.c__law_planes CS.c__law_wrong cw kw Wx b_repr (f := f) (cdv := cdv) (A := callerA) (outer := []) (s := s) (H := H) (E := E0) rfl hr
  exact ⟨t, PSs.nox Dl.ps, start_dl (N := N_law) (ps := ["script"]) Dl rfl (fun as R z => (p_law as R z).1) (fun as R z => (p_law as R z).2) hsp⟩
/-- what the law is asked -/
theorem askL {H : Hp} {a : Addr} {ns : List Int} (hl : ns.length ≤ 63) (sq : SqL K H a (ns.map V.int)) : toSp K d_law [.ref a] H (fun v _ => v = .bl true) E0 :=
  sp_one (fun z => z = .bool true) (rp_lst.mpr ⟨a, _, rfl, sq, RpL.ints ns⟩) ⟨ns, rfl, hl, fun ys => ⟨_, rfl, rfl⟩⟩ fun z u H' _ r e => by
    subst e
    exact rp_bl.mp r
theorem factsH (X : K.In h) (Gn : h.Ns mainGlobals mg) (c : SaysD faH fnH K) (ex : exH K = true) (fi : fnI K (ma K (ga K "PlaneError") "__init__") = fiH) {fa : Addr} (hfa : mg ("law" : Str) = some (.ref fa)) :
    ∃ fd : FuncData, (∀ (s : Shared) (u : Value), BindsTo s fd ⟨[u], []⟩ [("script", u)]) ∧ ∀ base : Heap, K.In base → base.Ns mainGlobals mg → RunC PP w K mg base fa fd "script" (toSp K d_law) := by
  obtain ⟨fd, F⟩ := c.def_ 38 (d := dH_law) rfl
  have e := hfa.symm.trans (glo_ok X Gn (c.fact 38 (f := .glo "law") rfl))
  cases e
  have b := FunD.bindsA (ps := ["script"]) F fun _ _ _ _ _ _ us hl => match us, hl with | [_], _ => rfl
  exact ⟨fd, fun s u => b s [u] rfl, fun base _ _ => runL X Gn c ex fi F⟩
end
end K90
open PySem PySem.W PySem.Calls PyProof.Rows
theorem PySem.Challenge.cw_planescut_k90_whole_wrong_lines_of_arran_holds : PySem.Challenge.rw_planescut_k90_whole_wrong_lines_of_arran.Holds := by
  w_on; o_law
  refine HandSHeadRun.head_any (r := OpenLaw.row PySem.Challenge.rw_planescut_k90_whole_wrong_lines_of_arran) (q := view (OpenLaw.row PySem.Challenge.rw_planescut_k90_whole_wrong_lines_of_arran).prog [50]) (H := K90.hkH) (ob := K90.obH) (M := 2000) (loose := K90.looseH) (d := HandSHeadRun.topDef (OpenLaw.row PySem.Challenge.rw_planescut_k90_whole_wrong_lines_of_arran).prog 50) (kwd := []) K90.obH_eq
    (by kernel_rfl) (fun s => by kernel_rfl) K90.runH (by kernel_rfl) (by kernel_rfl) (by kernel_rfl) (by rfl) (by first | assumption | decide +kernel) (by decide +kernel) ⟨rfl, rfl, rfl, rfl, rfl, by decide +kernel⟩ ?hw ?hc
  case hw => w_witness2
  case hc =>
    refine EXW.walk_G (l := PySem.Challenge.rw_planescut_k90_whole_wrong_lines_of_arran) (n := 63) (x := "script") rfl (by decide) (by kernel_rfl) ?F
    intro w mg fa h Y G hmg0
    obtain ⟨K, KX, c, ex, fi⟩ := Y
    have hmg : mg ("law" : PySem.Str) = some (.ref fa) := by
      have e : (HandSHeadRun.topDef (OpenLaw.row PySem.Challenge.rw_planescut_k90_whole_wrong_lines_of_arran).prog 50).name = ("law" : PySem.Str) := by kernel_rfl
      rw [← e]
      exact hmg0
    obtain ⟨fd, hb, hF⟩ := K90.factsH (w := w) KX G c ex fi hmg
    exact ⟨K, fd, _, KX, hb, fun H a ns hl sq => K90.askL hl sq, hF⟩
