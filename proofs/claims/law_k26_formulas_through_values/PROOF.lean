import PyProof.Rows.All
import Wide.All
import OpenK.AllK
import Wide.FinOn
import HandS.ForMost
import HandS.ForExc
import HandS.Walk
import HandS.Wide
import HandS.WideBits
import HandS.Strs
import HandS.IsInst
import HandS.Style
import HandS.Deep
import HandS.CallSlots
import HandS.SetFor
import HandS.RaiseMore
import HandS.ExcInit
import HandS.SortRule
import HandS.SortInts
import HandS.Conv
import PyProof.P3Eq
import HandS.TryOnly
import HandS.TupLe
import PyProof.LongRange
import HandS.Defaults
import HandS.ExcField
import KE.KDictZip
import HandS.Iter
import HandS.TupSets
import HandS.SortOrd
import HandS.TryMany
import HandS.Exc
import PyProof.Rows.RuleB_and
import KE.KBits
import KE.KDictPairs
import HandS.ListItems
import PySem.Challenge.RW_keeprests_k26_formulas_through_values
set_option Elab.async false
set_option linter.all false
set_option maxRecDepth 100000
set_option maxHeartbeats 4000000
section
open PySem PySem.W PyProof.Rows
set_option maxHeartbeats 0 in
open_top headX for PySem.Challenge.rw_keeprests_k26_formulas_through_values
end
/-! PW1 -/
namespace PW
open PySem L2

/-- data: cel a the mutable list (a cell) at a; raw v any other value; exc a dd fs the exception at a, its dict at dd, its fields being ints -/
inductive D where
  | non | bl (b : Bool) | int (i : Int) | str (x : Str) | tup (ds : List D) | lst (ds : List D) | cel (a : Addr) | raw (v : V)
  | exc (a dd : Addr) (fs : List (Str × Int))
inductive Cell where
  | lst (ds : List D) | dct (kvs : List (Key × D)) | set (w : World) (f : Int → Bool) (n : Nat)
abbrev Cells := List (Addr × Cell)
abbrev Slots := List (Option D)

mutual
inductive Rep (K : PySem.W.Frag) (F : Hp) : V → D → Prop
  | non : Rep K F .non .non
  | bl (b : Bool) : Rep K F (.bl b) (.bl b)
  | int (i : Int) : Rep K F (.int i) (.int i)
  | str (x : Str) : Rep K F (.str x) (.str x)
  | tup {a : Addr} {vs : List V} {ds : List D} : SqT K F a vs → Reps K F vs ds → Rep K F (.ref a) (.tup ds)
  | lst {a : Addr} {vs : List V} {ds : List D} : SqL K F a vs → Reps K F vs ds → Rep K F (.ref a) (.lst ds)
  | cel (a : Addr) : Rep K F (.ref a) (.cel a)
  | raw (v : V) : Rep K F v (.raw v)
  | exc (a dd : Addr) (fs : List (Str × Int)) : F dd = some (.xd (fs.map fun p => (p.1, V.int p.2))) → Rep K F (.ref a) (.exc a dd fs)
inductive Reps (K : PySem.W.Frag) (F : Hp) : List V → List D → Prop
  | nil : Reps K F [] []
  | cons {v : V} {vs : List V} {d : D} {ds : List D} : Rep K F v d → Reps K F vs ds → Reps K F (v :: vs) (d :: ds)
end

theorem Same.tup {K : PySem.W.Frag} {H H' : Hp} {a : Addr} {xs : List V} (e : Same H H') (h : SqT K H a xs) : SqT K H' a xs := by
  rcases h with (h | ⟨o, h⟩) | h
  · exact .inl (.inl (e _ _ h))
  · exact .inl (.inr ⟨o, e _ _ h⟩)
  · exact .inr h

section
variable {K : PySem.W.Frag} {F F' : Hp}
mutual
theorem Rep.mono (s : Same F F') : ∀ (d : D) (v : V), Rep K F v d → Rep K F' v d
  | .non, _, h => by cases h; exact .non
  | .bl _, _, h => by cases h; exact .bl _
  | .int _, _, h => by cases h; exact .int _
  | .str _, _, h => by cases h; exact .str _
  | .tup ds, _, h => by cases h with | tup a b => exact .tup (Same.tup s a) (Reps.mono s ds _ b)
  | .lst ds, _, h => by cases h with | lst a b => exact .lst (s.seq a) (Reps.mono s ds _ b)
  | .cel k, _, h => by cases h with | cel a => exact .cel _
  | .raw _, _, h => by cases h; exact .raw _
  | .exc _ _ _, _, h => by cases h with | exc _ _ _ e => exact .exc _ _ _ (s _ _ e)
theorem Reps.mono (s : Same F F') : ∀ (ds : List D) (vs : List V), Reps K F vs ds → Reps K F' vs ds
  | [], _, h => by cases h; exact .nil
  | d :: ds, _, h => by cases h with | cons a b => exact .cons (Rep.mono s d _ a) (Reps.mono s ds _ b)
end
theorem Rep.up {v : V} {d : D} (h : Rep K F v d) (s : Same F F') : Rep K F' v d := Rep.mono s d v h
theorem Reps.up {vs : List V} {ds : List D} (h : Reps K F vs ds) (s : Same F F') : Reps K F' vs ds := Reps.mono s ds vs h
theorem Reps.length : ∀ {vs : List V} {ds : List D}, Reps K F vs ds → vs.length = ds.length
  | _, [], h => by cases h; rfl
  | _, d :: ds, h => by cases h with | cons a b => simp [Reps.length b]
theorem Reps.get : ∀ {vs : List V} {ds : List D} {i : Nat} {d : D}, Reps K F vs ds → ds[i]? = some d → ∃ v, vs[i]? = some v ∧ Rep K F v d
  | _, [], i, d, h, e => by simp at e
  | _, d0 :: ds, 0, d, h, e => by
    cases h with | cons a b => simp at e; subst e; exact ⟨_, rfl, a⟩
  | _, d0 :: ds, i + 1, d, h, e => by
    cases h with
    | cons a b =>
      obtain ⟨v, h1, h2⟩ := Reps.get (i := i) b (by simpa using e)
      exact ⟨v, by simpa using h1, h2⟩
theorem Reps.get' : ∀ {vs : List V} {ds : List D} {i : Nat} {v : V}, Reps K F vs ds → vs[i]? = some v → ∃ d, ds[i]? = some d ∧ Rep K F v d
  | _, [], i, v, h, e => by cases h; simp at e
  | _, d0 :: ds, 0, v, h, e => by
    cases h with | cons a b => simp at e; subst e; exact ⟨_, rfl, a⟩
  | _, d0 :: ds, i + 1, v, h, e => by
    cases h with
    | cons a b =>
      obtain ⟨d, h1, h2⟩ := Reps.get' (i := i) b (by simpa using e)
      exact ⟨d, by simpa using h1, h2⟩
theorem Reps.append : ∀ {vs ws : List V} {ds es : List D}, Reps K F vs ds → Reps K F ws es → Reps K F (vs ++ ws) (ds ++ es)
  | _, _, [], es, h, g => by cases h; exact g
  | _, _, d :: ds, es, h, g => by cases h with | cons a b => exact .cons a (b.append g)
theorem Reps.take : ∀ {vs : List V} {ds : List D} (n : Nat), Reps K F vs ds → Reps K F (vs.take n) (ds.take n)
  | _, _, 0, _ => by simpa using Reps.nil
  | _, [], n + 1, h => by cases h; exact .nil
  | _, d :: ds, n + 1, h => by cases h with | cons a b => simpa using Reps.cons a (b.take n)
theorem Reps.drop : ∀ {vs : List V} {ds : List D} (n : Nat), Reps K F vs ds → Reps K F (vs.drop n) (ds.drop n)
  | _, _, 0, h => by simpa using h
  | _, [], n + 1, h => by cases h; exact .nil
  | _, d :: ds, n + 1, h => by cases h with | cons a b => simpa using b.drop n
theorem Reps.set : ∀ {vs : List V} {ds : List D} {v : V} {d : D} (n : Nat), Rep K F v d → Reps K F vs ds → Reps K F (vs.set n v) (ds.set n d)
  | _, [], _, _, n, r, h => by cases h; exact .nil
  | _, _ :: ds, _, _, 0, r, h => by cases h with | cons a b => exact .cons r b
  | _, _ :: ds, _, _, n + 1, r, h => by cases h with | cons a b => exact .cons a (b.set n r)
theorem Reps.replicate {vs : List V} {ds : List D} (h : Reps K F vs ds) : ∀ n : Nat, Reps K F (List.replicate n vs).flatten (List.replicate n ds).flatten
  | 0 => .nil
  | n + 1 => by simpa [List.replicate_succ] using h.append (h.replicate n)
theorem Reps.ints : ∀ (ns : List Int), Reps K F (ns.map V.int) (ns.map D.int)
  | [] => .nil
  | n :: ns => .cons (.int n) (Reps.ints ns)
theorem Reps.ints_inv : ∀ {ns : List Int} {vs : List V}, Reps K F vs (ns.map D.int) → vs = ns.map V.int
  | [], _, h => by cases h; rfl
  | n :: ns, _, h => by cases h with | cons a b => cases a; rw [Reps.ints_inv b]; rfl
theorem Reps.bls_inv : ∀ {ns : List Bool} {vs : List V}, Reps K F vs (ns.map D.bl) → vs = ns.map V.bl
  | [], _, h => by cases h; rfl
  | n :: ns, _, h => by cases h with | cons a b => cases a; rw [Reps.bls_inv b]; rfl
end


def KVs (K : PySem.W.Frag) (F : Hp) : List (Key × V) → List (Key × D) → Prop := Paired fun p q => p.1 = q.1 ∧ Rep K F p.2 q.2
theorem KVs.up {K : PySem.W.Frag} {F F' : Hp} (s : Same F F') : ∀ {xs : List (Key × V)} {ys : List (Key × D)}, KVs K F xs ys → KVs K F' xs ys
  | _, _, .nil => .nil
  | _, _, .cons h t => .cons ⟨h.1, h.2.up s⟩ (KVs.up s t)
def CellIs (K : PySem.W.Frag) (F : Hp) (H : Hp) (a : Addr) : Cell → Prop
  | .lst ds => ∃ vs, H a = some (.lst vs) ∧ Reps K F vs ds
  | .dct kvs => ∃ xs, H a = some (.dK xs) ∧ KVs K F xs kvs
  | .set w f n => H a = some (SetO w a f n)
structure Stt (K : PySem.W.Frag) (F : Hp) (M : Cells) (δ : Slots) (σ : L2.St) (H : Hp) : Prop where
  le : Same F H
  nd : (M.map Prod.fst).Nodup
  cell : ∀ p ∈ M, CellIs K F H p.1 p.2
  out : ∀ p ∈ M, F p.1 = none
  slot : ∀ (i : Nat) (d : D), δ[i]? = some (some d) → ∃ v, σ[i]? = some (some v) ∧ Rep K F v d
  dlen : δ.length = σ.length

section
variable {K : PySem.W.Frag} {F F' : Hp} {M M' : Cells} {δ : Slots} {σ : L2.St} {H H' : Hp}
theorem CellIs.mono (s : Same F F') {a : Addr} {c : Cell} (h : CellIs K F H a c) (e : H' a = H a) : CellIs K F' H' a c := by
  cases c with
  | lst ds => obtain ⟨vs, h1, h2⟩ := h; exact ⟨vs, e.trans h1, h2.up s⟩
  | dct kvs => obtain ⟨vs, h1, h2⟩ := h; exact ⟨vs, e.trans h1, KVs.up s h2⟩
  | set w f n => exact e.trans h
theorem CellIs.born {a : Addr} {c : Cell} (h : CellIs K F H a c) : H a ≠ none := by
  cases c with
  | lst ds => obtain ⟨vs, h1, h2⟩ := h; rw [h1]; simp
  | dct kvs => obtain ⟨vs, h1, h2⟩ := h; rw [h1]; simp
  | set w f n => exact fun z => by rw [show H a = _ from h] at z; cases z
theorem Stt.cellAt (S : Stt K F M δ σ H) {a : Addr} {ds : List D} (h : (a, Cell.lst ds) ∈ M) : ∃ vs, H a = some (.lst vs) ∧ F a = none ∧ Reps K F vs ds := by
  obtain ⟨vs, h1, h2⟩ := S.cell _ h
  exact ⟨vs, h1, S.out _ h, h2⟩
theorem Stt.none_of (S : Stt K F M δ σ H) {a : Addr} (h : H a = none) : F a = none := by
  cases e : F a with
  | none => rfl
  | some u => rw [S.le a u e] at h; cases h
theorem Stt.ne_cell (S : Stt K F M δ σ H) {a : Addr} (h : H a = none) {p : Addr × Cell} (hp : p ∈ M) : p.1 ≠ a := fun z => (S.cell p hp).born (by rw [z]; exact h)
/-- a new object that is no cell, laid as frozen -/
theorem Stt.froz (S : Stt K F M δ σ H) {a : Addr} {o : HO} (h : H a = none) : Stt K (upd F a o) M δ σ (upd H a o) ∧ Same F (upd F a o) := by
  have fa : F a = none := S.none_of h
  have s : Same F (upd F a o) := fun b u e => by rw [upd_ne (ne_of_none e fa)]; exact e
  refine ⟨⟨fun b u e => ?_, S.nd, fun p hp => ?_, fun p hp => ?_, fun i d e => ?_, S.dlen⟩, s⟩
  · by_cases hb : b = a
    · subst hb; rw [upd_same] at e ⊢; exact e
    · rw [upd_ne hb] at e ⊢; exact S.le b u e
  · exact (S.cell p hp).mono s (by rw [upd_ne (S.ne_cell h hp)])
  · rw [upd_ne (S.ne_cell h hp)]; exact S.out p hp
  · obtain ⟨v, h1, h2⟩ := S.slot i d e
    exact ⟨v, h1, h2.up s⟩
/-- a new object, laid as a cell -/
theorem Stt.newCell (S : Stt K F M δ σ H) {a : Addr} {o : HO} {c : Cell} (h : H a = none) (hc : CellIs K F (upd H a o) a c) : Stt K F ((a, c) :: M) δ σ (upd H a o) := by
  have fa : F a = none := S.none_of h
  refine ⟨fun b u e => ?_, ?_, fun p hp => ?_, fun p hp => ?_, S.slot, S.dlen⟩
  · rw [upd_ne (ne_of_none e fa)]; exact S.le b u e
  · rw [List.map_cons, List.nodup_cons]
    refine ⟨fun hx => ?_, S.nd⟩
    obtain ⟨p, hp, e⟩ := List.mem_map.mp hx
    exact S.ne_cell h hp e
  · rcases List.mem_cons.mp hp with z | z
    · subst z; exact hc
    · exact (S.cell p z).mono (Same.refl _) (by rw [upd_ne (S.ne_cell h z)])
  · rcases List.mem_cons.mp hp with z | z
    · subst z; exact fa
    · exact S.out p z
theorem getElem?_set_cases {α : Type} {l : List α} {k j : Nat} {x y : α} (h : (l.set k x)[j]? = some y) : (j = k ∧ y = x) ∨ (j ≠ k ∧ l[j]? = some y) := by
  by_cases e : k = j
  · subst e
    have := (List.getElem?_eq_some_iff.mp h).1
    rw [List.getElem?_set_self (by simpa using this)] at h
    exact .inl ⟨rfl, (Option.some.inj h).symm⟩
  · rw [List.getElem?_set_ne e] at h
    exact .inr ⟨fun z => e z.symm, h⟩
theorem mem_set_cases {α : Type} {l : List α} {k : Nat} {x y : α} (h : y ∈ l.set k x) : y = x ∨ ∃ j, j ≠ k ∧ l[j]? = some y := by
  obtain ⟨j, e⟩ := List.getElem?_of_mem h
  rcases getElem?_set_cases e with ⟨_, h2⟩ | h
  · exact .inl h2
  · exact .inr ⟨j, h⟩
theorem ix_ne {M : Cells} (nd : (M.map Prod.fst).Nodup) {k j : Nat} {p q : Addr × Cell} (h : M[k]? = some p) (g : M[j]? = some q) (hne : j ≠ k) : q.1 ≠ p.1 := fun z => hne (nd_ix nd (a := by
    show (M.map Prod.fst)[j]? = some q.1
    rw [List.getElem?_map, g]; rfl) (b := by
    show (M.map Prod.fst)[k]? = some q.1
    rw [List.getElem?_map, h, z]; rfl))
/-- a cell changes -/
theorem Stt.setCell (S : Stt K F M δ σ H) {k : Nat} {a : Addr} {c c' : Cell} {o : HO} (hk : M[k]? = some (a, c)) (hc : CellIs K F (upd H a o) a c') : Stt K F (M.set k (a, c')) δ σ (upd H a o) := by
  have fa : F a = none := S.out _ (List.mem_of_getElem? hk)
  refine ⟨fun b u e => ?_, ?_, fun p hp => ?_, fun p hp => ?_, S.slot, S.dlen⟩
  · rw [upd_ne (ne_of_none e fa)]; exact S.le b u e
  · have e : (M.set k (a, c')).map Prod.fst = M.map Prod.fst := by
      rw [List.map_set]
      refine List.ext_getElem? fun i => ?_
      by_cases hi : k = i
      · subst hi
        have hl := (List.getElem?_eq_some_iff.mp hk).1
        rw [List.getElem?_set_self (by simpa using hl), List.getElem?_map, hk]; rfl
      · rw [List.getElem?_set_ne hi]
    rw [e]; exact S.nd
  · rcases mem_set_cases hp with rfl | ⟨j, hj, e⟩
    · exact hc
    · exact (S.cell p (List.mem_of_getElem? e)).mono (Same.refl _) (by rw [upd_ne (ix_ne S.nd hk e hj)])
  · rcases mem_set_cases hp with rfl | ⟨j, hj, e⟩
    · exact fa
    · exact S.out p (List.mem_of_getElem? e)
/-- a slot is set -/
theorem Stt.setSlot (S : Stt K F M δ σ H) {i : Nat} {v : V} {d : D} (r : Rep K F v d) : Stt K F M (δ.set i (some d)) (σ.set i (some v)) H := by
  refine ⟨S.le, S.nd, S.cell, S.out, fun j e h => ?_, by simp [S.dlen]⟩
  have hj : j < δ.length := by have := (List.getElem?_eq_some_iff.mp h).1; simpa using this
  rcases getElem?_set_cases h with ⟨h1, h2⟩ | ⟨h1, h2⟩
  · subst h1; cases h2
    exact ⟨v, by rw [List.getElem?_set_self (by rw [← S.dlen]; exact hj)], r⟩
  · obtain ⟨w, e1, e2⟩ := S.slot j e h2
    exact ⟨w, by rw [List.getElem?_set_ne (fun z => h1 z.symm)]; exact e1, e2⟩
/-- less is known of the slots -/
theorem Stt.slots {δ' : Slots} {σ' : L2.St} (S : Stt K F M δ σ H) (hl : δ'.length = σ'.length) (h : ∀ (i : Nat) (d : D), δ'[i]? = some (some d) → ∃ v, σ'[i]? = some (some v) ∧ Rep K F v d) : Stt K F M δ' σ' H :=
  ⟨S.le, S.nd, S.cell, S.out, h, hl⟩
theorem Stt.keep {F0 : Hp} {δ' : Slots} {σ' : L2.St} {M0 : Cells} {H0 : Hp} (S : Stt K F M δ σ H) (S0 : Stt K F0 M0 δ' σ' H0) (s : Same F0 F) : Stt K F M δ' σ' H :=
  S.slots S0.dlen fun i d e => let ⟨v, h1, h2⟩ := S0.slot i d e; ⟨v, h1, h2.up s⟩
/-- cells are forgotten (not frozen: they are no longer known at all) -/
theorem Stt.fewer (S : Stt K F M δ σ H) (h : M'.Sublist M) : Stt K F M' δ σ H :=
  ⟨S.le, S.nd.sublist (h.map _), fun p hp => S.cell p (h.subset hp), fun p hp => S.out p (h.subset hp), S.slot, S.dlen⟩
/-- a cell is frozen -/
theorem Stt.freeze (S : Stt K F M δ σ H) {k : Nat} {a : Addr} {ds : List D} (h : M[k]? = some (a, .lst ds)) :
    ∃ F', Same F F' ∧ Stt K F' (M.eraseIdx k) δ σ H ∧ Rep K F' (.ref a) (.lst ds) := by
  obtain ⟨vs, hH, fa, r⟩ := S.cellAt (List.mem_of_getElem? h)
  have s : Same F (upd F a (.lst vs)) := fun b u e => by rw [upd_ne (ne_of_none e fa)]; exact e
  have ne : ∀ p ∈ M.eraseIdx k, p.1 ≠ a := fun p hp => by
    obtain ⟨j, e⟩ := List.getElem?_of_mem hp
    rw [List.getElem?_eraseIdx] at e
    split at e
    · exact ix_ne S.nd h e (by omega)
    · exact ix_ne S.nd h e (by omega)
  have sub : ∀ p ∈ M.eraseIdx k, p ∈ M := fun p hp => (List.eraseIdx_sublist M k).subset hp
  refine ⟨upd F a (.lst vs), s, ⟨fun b u e => ?_, S.nd.sublist ((List.eraseIdx_sublist M k).map _), fun p hp => (S.cell p (sub p hp)).mono s rfl, fun p hp => ?_, fun i d e => ?_, S.dlen⟩, .lst (.of upd_same) (r.up s)⟩
  · by_cases hb : b = a
    · subst hb; rw [upd_same] at e; rw [hH]; exact e
    · rw [upd_ne hb] at e; exact S.le b u e
  · rw [upd_ne (ne p hp)]; exact S.out p (sub p hp)
  · obtain ⟨v, h1, h2⟩ := S.slot i d e
    exact ⟨v, h1, h2.up s⟩
end

/-- d is a list, frozen or a cell -/
def LV (M : Cells) (d : D) (ds : List D) : Prop := d = .lst ds ∨ ∃ (k : Nat) (a : Addr), d = .cel a ∧ M[k]? = some (a, .lst ds)
theorem LV.l {M : Cells} {ds : List D} : LV M (.lst ds) ds := .inl rfl
theorem LV.c {M : Cells} {a : Addr} {ds : List D} (k : Nat) (h : M[k]? = some (a, .lst ds)) : LV M (.cel a) ds := .inr ⟨k, a, rfl, h⟩
section
variable {K : PySem.W.Frag} {F : Hp} {M : Cells} {δ : Slots} {σ : L2.St} {H : Hp}
theorem Stt.readL (S : Stt K F M δ σ H) {v : V} {d : D} {ds : List D} (r : Rep K F v d) (h : LV M d ds) : ∃ a vs, v = .ref a ∧ SqL K H a vs ∧ Reps K F vs ds := by
  rcases h with rfl | ⟨k, a, rfl, h⟩
  · cases r with | lst a b => exact ⟨_, _, rfl, S.le.seq a, b⟩
  · cases r
    obtain ⟨vs, h1, h2, h3⟩ := S.cellAt (List.mem_of_getElem? h)
    exact ⟨_, vs, rfl, .of h1, h3⟩
theorem Stt.readT (S : Stt K F M δ σ H) {v : V} {ds : List D} (r : Rep K F v (.tup ds)) : ∃ a vs, v = .ref a ∧ SqT K H a vs ∧ Reps K F vs ds := by
  cases r with | tup a b => exact ⟨_, _, rfl, Same.tup S.le a, b⟩
end
end PW
/-! PW2 -/
namespace PW
open PySem L2 PyProof.Rows

structure Ex where
  cls : Addr
  fs : List (Str × D)
abbrev XP := Ex → Slots → Cells → Prop
def PX0 : XP := fun _ _ _ => False
def FsIs (K : PySem.W.Frag) (F : Hp) : List (Str × V) → List (Str × D) → Prop := Paired fun p q => p.1 = q.1 ∧ Rep K F p.2 q.2
def ExIs (K : PySem.W.Frag) (F H : Hp) (cls : Value) (d : Option Addr) (x : Ex) : Prop :=
  cls = .ref x.cls ∧ ((x.fs = [] ∧ d = none) ∨ ∃ dd vs, d = some dd ∧ H dd = some (.xd vs) ∧ FsIs K F vs x.fs)
def upX (K : PySem.W.Frag) (F : Hp) (P : XP) (cls : Value) (d : Option Addr) (σ' : L2.St) (H' : Hp) : Prop :=
  ∃ F' M' δ' x, Same F F' ∧ Stt K F' M' δ' σ' H' ∧ ExIs K F' H' cls d x ∧ P x δ' M'
def TakesP (X : Cx) (P : XP) (F : Hp) : Prop := ∃ W : WX, Takes X W ∧ ∀ cls d σ' H', upX X.K F P cls d σ' H' → W cls d σ' H'
theorem TakesP.up {X : Cx} {P : XP} {F F' : Hp} (t : TakesP X P F) (s : Same F F') : TakesP X P F' :=
  let ⟨W, h, k⟩ := t; ⟨W, h, fun cls d σ' H' ⟨F2, M2, δ2, x, s2, r⟩ => k cls d σ' H' ⟨F2, M2, δ2, x, s.trans s2, r⟩⟩
theorem TakesP.none {X : Cx} {F : Hp} : TakesP X PX0 F := ⟨fun _ _ _ _ => False, fun _ _ x => by
  obtain ⟨_, _, _, _, _, _, _, _, _, _, _, _, _, _, _, _, z⟩ := x
  exact z.elim, fun _ _ _ _ ⟨_, _, _, _, _, _, _, z⟩ => z.elim⟩
structure Go (X : Cx) (P : XP) (F : Hp) (M : Cells) (δ : Slots) (σ : L2.St) (H : Hp) : Prop where
  st : Stt X.K F M δ σ H
  tk : TakesP X P F

def upE (K : PySem.W.Frag) (F : Hp) (δ : Slots) (σ : L2.St) (Q : D → Cells → Prop) : VK := fun v H' => ∃ F' M' d, Same F F' ∧ Stt K F' M' δ σ H' ∧ Rep K F' v d ∧ Q d M'
def upT (K : PySem.W.Frag) (F : Hp) (δ : Slots) (σ : L2.St) (Q : Bool → Cells → Prop) : Bool → Hp → Prop := fun b H' => ∃ F' M', Same F F' ∧ Stt K F' M' δ σ H' ∧ Q b M'
def upA (K : PySem.W.Frag) (F : Hp) (δ : Slots) (σ : L2.St) (Q : List D → Cells → Prop) : List V → Hp → Prop := fun vs H' => ∃ F' M' ds, Same F F' ∧ Stt K F' M' δ σ H' ∧ Reps K F' vs ds ∧ Q ds M'
def tE (X : Cx) (e : Expr) : TE := fun σ H Q => ∀ pins s, Inv X pins σ H s → wpAny (model X.prog X.w) X.A (eval e X.env) (EP X pins σ Q) X.xe s
def tT (X : Cx) (e : Expr) : TT := fun σ H Q => ∀ pins s, Inv X pins σ H s → wpAny (model X.prog X.w) X.A (isTrue e X.env (eval e X.env)) (TP X pins σ Q) X.xe s
def tW (X : Cx) (e : Expr) : TT := fun σ H Q => ∀ whole pins s, Inv X pins σ H s → wpAny (model X.prog X.w) X.A (isTrue e X.env whole) (TP X pins σ Q) X.xe s
def tA (X : Cx) (es : List Expr) : TA := fun σ H Q => ∀ (pos : Pos) pins s, Inv X pins σ H s → wpAny (model X.prog X.w) X.A (spliced (backTo pos (starEach es X.env))) (AP X pins σ Q) X.xe s
theorem pe_sem {X : Cx} {e : Expr} : PE X e (tE X e) := ⟨fun pins s _ _ _ I h => h pins s I⟩
theorem pt_sem {X : Cx} {e : Expr} : PT X e (tT X e) := ⟨fun pins s _ _ _ I h => h pins s I⟩
theorem pw_sem {X : Cx} {e : Expr} : PW X e (tW X e) := ⟨fun w pins s _ _ _ I h => h w pins s I⟩
theorem pa_sem {X : Cx} {es : List Expr} : PA X es (tA X es) := ⟨fun pos pins s _ _ _ I h => h pos pins s I⟩
def WE (X : Cx) (P : XP) (e : Expr) (δ : Slots) (M : Cells) (Q : D → Cells → Prop) : Prop := ∀ σ H F, Go X P F M δ σ H → tE X e σ H (upE X.K F δ σ Q)
def WT (X : Cx) (P : XP) (e : Expr) (δ : Slots) (M : Cells) (Q : Bool → Cells → Prop) : Prop := ∀ σ H F, Go X P F M δ σ H → tT X e σ H (upT X.K F δ σ Q)
def WW (X : Cx) (P : XP) (e : Expr) (δ : Slots) (M : Cells) (Q : Bool → Cells → Prop) : Prop := ∀ σ H F, Go X P F M δ σ H → tW X e σ H (upT X.K F δ σ Q)
def WA (X : Cx) (P : XP) (es : List Expr) (δ : Slots) (M : Cells) (Q : List D → Cells → Prop) : Prop := ∀ σ H F, Go X P F M δ σ H → tA X es σ H (upA X.K F δ σ Q)

section
variable {X : Cx} {P : XP} {F : Hp} {M : Cells} {δ : Slots} {σ : L2.St} {H : Hp} {e a b c : Expr} {es : List Expr} {pos : Pos}
theorem EP.mono {pins : List (Addr × Obj)} {Q Q' : VK} (k : ∀ v H', Q v H' → Q' v H') {u : Value} {s : Shared} (h : EP X pins σ Q u s) : EP X pins σ Q' u s :=
  let ⟨v, H', I, r, q⟩ := h; ⟨v, H', I, r, k v H' q⟩
theorem tE.mono {Q Q' : VK} (h : tE X e σ H Q) (k : ∀ v H', Q v H' → Q' v H') : tE X e σ H Q' := fun pins s I => thn (h pins s I) fun _ _ q => EP.mono k q
theorem tT.mono {Q Q' : Bool → Hp → Prop} (h : tT X e σ H Q) (k : ∀ v H', Q v H' → Q' v H') : tT X e σ H Q' := fun pins s I => thn (h pins s I) fun _ _ ⟨H', I', q⟩ => ⟨H', I', k _ _ q⟩
theorem tW.mono {Q Q' : Bool → Hp → Prop} (h : tW X e σ H Q) (k : ∀ v H', Q v H' → Q' v H') : tW X e σ H Q' := fun w pins s I => thn (h w pins s I) fun _ _ ⟨H', I', q⟩ => ⟨H', I', k _ _ q⟩
theorem tA.mono {Q Q' : List V → Hp → Prop} (h : tA X es σ H Q) (k : ∀ v H', Q v H' → Q' v H') : tA X es σ H Q' := fun pos pins s I => thn (h pos pins s I) fun _ _ ⟨vs, H', I', r, q⟩ => ⟨vs, H', I', r, k _ _ q⟩
theorem WE.go {Q : D → Cells → Prop} (h : WE X P e δ M Q) (G : Go X P F M δ σ H) {Q' : VK} (k : ∀ v H' F' M' d, Same F F' → Go X P F' M' δ σ H' → Rep X.K F' v d → Q d M' → Q' v H') : tE X e σ H Q' :=
  (h σ H F G).mono fun v H' ⟨F', M', d, s, S, r, q⟩ => k v H' F' M' d s ⟨S, G.tk.up s⟩ r q
theorem WT.go {Q : Bool → Cells → Prop} (h : WT X P e δ M Q) (G : Go X P F M δ σ H) {Q' : Bool → Hp → Prop} (k : ∀ v H' F' M', Same F F' → Go X P F' M' δ σ H' → Q v M' → Q' v H') : tT X e σ H Q' :=
  (h σ H F G).mono fun v H' ⟨F', M', s, S, q⟩ => k v H' F' M' s ⟨S, G.tk.up s⟩ q
theorem WW.go {Q : Bool → Cells → Prop} (h : WW X P e δ M Q) (G : Go X P F M δ σ H) {Q' : Bool → Hp → Prop} (k : ∀ v H' F' M', Same F F' → Go X P F' M' δ σ H' → Q v M' → Q' v H') : tW X e σ H Q' :=
  (h σ H F G).mono fun v H' ⟨F', M', s, S, q⟩ => k v H' F' M' s ⟨S, G.tk.up s⟩ q
theorem WA.go {Q : List D → Cells → Prop} (h : WA X P es δ M Q) (G : Go X P F M δ σ H) {Q' : List V → Hp → Prop} (k : ∀ vs H' F' M' ds, Same F F' → Go X P F' M' δ σ H' → Reps X.K F' vs ds → Q ds M' → Q' vs H') : tA X es σ H Q' :=
  (h σ H F G).mono fun v H' ⟨F', M', d, s, S, r, q⟩ => k v H' F' M' d s ⟨S, G.tk.up s⟩ r q
theorem we_of {t : TE} {Q : D → Cells → Prop} (p : PE X e t) (h : ∀ σ H F, Go X P F M δ σ H → t σ H (upE X.K F δ σ Q)) : WE X P e δ M Q := fun σ H F G pins s I => p.run pins s σ H _ I (h σ H F G)
theorem wt_of {t : TT} {Q : Bool → Cells → Prop} (p : PT X e t) (h : ∀ σ H F, Go X P F M δ σ H → t σ H (upT X.K F δ σ Q)) : WT X P e δ M Q := fun σ H F G pins s I => p.run pins s σ H _ I (h σ H F G)
theorem ww_of {t : TT} {Q : Bool → Cells → Prop} (p : PW X e t) (h : ∀ σ H F, Go X P F M δ σ H → t σ H (upT X.K F δ σ Q)) : WW X P e δ M Q := fun σ H F G w pins s I => p.run w pins s σ H _ I (h σ H F G)
theorem wa_of {t : TA} {Q : List D → Cells → Prop} (p : PA X es t) (h : ∀ σ H F, Go X P F M δ σ H → t σ H (upA X.K F δ σ Q)) : WA X P es δ M Q := fun σ H F G pos pins s I => p.run pos pins s σ H _ I (h σ H F G)
theorem ret {K : PySem.W.Frag} {F0 F : Hp} {δ : Slots} {σ : L2.St} {H : Hp} {M : Cells} {Q : D → Cells → Prop} {v : V} {d : D} (S : Stt K F M δ σ H) (s : Same F0 F) (r : Rep K F v d) (q : Q d M) : upE K F0 δ σ Q v H := ⟨F, M, d, s, S, r, q⟩
theorem WE.imp {Q Q' : D → Cells → Prop} (h : WE X P e δ M Q) (k : ∀ d M', Q d M' → Q' d M') : WE X P e δ M Q' := fun σ H F G => h.go G fun v H' F' M' d s G' r q => ret G'.st s r (k d M' q)
theorem WT.imp {Q Q' : Bool → Cells → Prop} (h : WT X P e δ M Q) (k : ∀ d M', Q d M' → Q' d M') : WT X P e δ M Q' := fun σ H F G => h.go G fun v H' F' M' s G' q => ⟨F', M', s, G'.st, k _ _ q⟩
theorem we_name {i : Nat} {x : Str} {Q : D → Cells → Prop} {d : D} (hN : X.N[i]? = some x) (hv : Vis X.env.scope x) (hd : δ[i]? = some (some d)) (h : Q d M) (h1 : (x == ("__debug__" : Str)) = false := by decide) (h2 : (x == ("__classdict__" : Str)) = false := by decide) : WE X P (.Name x pos) δ M Q :=
  we_of (pe_var hN hv h1 h2) fun σ H F G => let ⟨v, h1, h2⟩ := G.st.slot i d hd; ⟨v, h1, ret G.st (Same.refl _) h2 h⟩
theorem we_int {i : Int} {j} {Q : D → Cells → Prop} (h : Q (.int i) M) : WE X P (.Constant (.int i) j pos) δ M Q := we_of pe_int fun σ H F G => ret G.st (Same.refl _) (.int i) h
theorem we_bl {i : Bool} {j} {Q : D → Cells → Prop} (h : Q (.bl i) M) : WE X P (.Constant (.bool i) j pos) δ M Q := we_of pe_bl fun σ H F G => ret G.st (Same.refl _) (.bl i) h
theorem we_non {j} {Q : D → Cells → Prop} (h : Q .non M) : WE X P (.Constant .none j pos) δ M Q := we_of pe_non fun σ H F G => ret G.st (Same.refl _) .non h
/-- a module's constant -/
theorem we_glob {x : Str} {d : D} {v : V} {u : Value} {Q : D → Cells → Prop} (hg : Gl X x) (hm : X.mg x = some u) (r : RelV v u) (rd : ∀ K F, Rep K F v d) (h : Q d M) (hd : (x == ("__debug__" : Str)) = false := by decide) : WE X P (.Name x pos) δ M Q :=
  we_of (pe_glob hg hm r hd) fun σ H F G => ret G.st (Same.refl _) (rd _ _) h
/-- a built-in class or function as a value -/
theorem we_bltn {x : Str} {v : V} {u : Value} {Q : D → Cells → Prop} (hg : Gl X x) (hm : X.mg x = none) (hv : bootBuiltins x = some u) (r : RelV v u) (h : Q (.raw v) M) (hn : x ≠ "__name__" := by decide) (hd : (x == ("__debug__" : Str)) = false := by decide) : WE X P (.Name x pos) δ M Q :=
  we_of (pe_bltn hg hm hv r hn hd) fun σ H F G => ret G.st (Same.refl _) (.raw v) h

abbrev RD2 := D → D → Cells → (D → Cells → Prop) → Prop
def Lift2 (X : Cx) (r : R2) (R : RD2) : Prop := ∀ {F0 F : Hp} {M : Cells} {δ : Slots} {σ : L2.St} {H : Hp} {x y : V} {d e : D} {Q : D → Cells → Prop} {Q' : VK}, (∀ v H', upE X.K F0 δ σ Q v H' → Q' v H') → Same F0 F → Stt X.K F M δ σ H → Rep X.K F x d → Rep X.K F y e → R d e M Q → r x y H Q'
abbrev RD1 := D → Cells → (D → Cells → Prop) → Prop
def Lift1 (X : Cx) (r : V → Hp → VK → Prop) (R : RD1) : Prop := ∀ {F0 F : Hp} {M : Cells} {δ : Slots} {σ : L2.St} {H : Hp} {x : V} {d : D} {Q : D → Cells → Prop} {Q' : VK}, (∀ v H', upE X.K F0 δ σ Q v H' → Q' v H') → Same F0 F → Stt X.K F M δ σ H → Rep X.K F x d → R d M Q → r x H Q'
abbrev RDA := List D → Cells → (D → Cells → Prop) → Prop
def LiftA (X : Cx) (r : List V → Hp → VK → Prop) (R : RDA) : Prop := ∀ {F0 F : Hp} {M : Cells} {δ : Slots} {σ : L2.St} {H : Hp} {xs : List V} {ds : List D} {Q : D → Cells → Prop} {Q' : VK}, (∀ v H', upE X.K F0 δ σ Q v H' → Q' v H') → Same F0 F → Stt X.K F M δ σ H → Reps X.K F xs ds → R ds M Q → r xs H Q'
theorem bind2 {ea eb : Expr} {R : RD2} {r : R2} {Q : D → Cells → Prop} {Q' : VK} (k : ∀ v H', upE X.K F δ σ Q v H' → Q' v H') (L : Lift2 X r R) (h : WE X P ea δ M fun d M1 => WE X P eb δ M1 fun e M2 => R d e M2 Q) (G : Go X P F M δ σ H) : tOp r (tE X ea) (tE X eb) σ H Q' :=
  h.go G fun v H1 F1 M1 d s1 G1 r1 q1 => q1.go G1 fun u H2 F2 M2 e s2 G2 r2 q2 => L k (s1.trans s2) G2.st (r1.up s2) r2 q2
theorem we_op {op : Operator} {r : R2} {R : RD2} {Q : D → Cells → Prop} (ho : OpR X (binaryOp op) r) (L : Lift2 X r R) (h : WE X P a δ M fun d M1 => WE X P b δ M1 fun e M2 => R d e M2 Q) : WE X P (.BinOp a op b pos) δ M Q :=
  we_of (pe_op ho pe_sem pe_sem) fun σ H F G => bind2 (fun _ _ z => z) L h G
theorem we_un {op : UnaryOp} {r : V → Hp → VK → Prop} {R : RD1} {Q : D → Cells → Prop} (ho : UnR X (unaryOp op) r) (L : Lift1 X r R) (h : WE X P a δ M fun d M1 => R d M1 Q) : WE X P (.UnaryOp op a pos) δ M Q :=
  we_of (pe_un ho pe_sem) fun σ H F G => h.go G fun v H1 F1 M1 d s1 G1 r1 q1 => L (fun _ _ z => z) s1 G1.st r1 q1
theorem we_cmp {op : CmpOp} {r : R2} {R : RD2} {Q : D → Cells → Prop} (ho : OpR X (compareOp op) r) (L : Lift2 X r R) (hm : behindInMarks op b = false) (h : WE X P a δ M fun d M1 => WE X P b δ M1 fun e M2 => R d e M2 Q) : WE X P (.Compare a [op] [b] pos) δ M Q :=
  we_of (pe_cmpR ho pe_sem pe_sem hm) fun σ H F G => bind2 (fun _ _ z => z) L h G
/-- what comes is a bool -/
def onB (Q : Bool → Cells → Prop) : D → Cells → Prop := fun d M => ∃ k, d = .bl k ∧ Q k M
theorem onB_up {K : PySem.W.Frag} {F : Hp} {δ : Slots} {σ : L2.St} {H : Hp} {Q : Bool → Cells → Prop} {v : V} (h : upE K F δ σ (onB Q) v H) : ∃ k, v = .bl k ∧ upT K F δ σ Q k H := by
  obtain ⟨F', M', d, s, S, r, k, rfl, q⟩ := h
  cases r
  exact ⟨k, rfl, F', M', s, S, q⟩
theorem wt_cmp {op : CmpOp} {r : R2} {R : RD2} {Q : Bool → Cells → Prop} (ho : OpR X (compareOp op) r) (L : Lift2 X r R) (hm : behindInMarks op b = false) (h : WE X P a δ M fun d M1 => WE X P b δ M1 fun e M2 => R d e M2 (onB Q)) : WT X P (.Compare a [op] [b] pos) δ M Q :=
  wt_of (pt_cmpR ho pe_sem pe_sem hm) fun σ H F G => bind2 (fun _ _ z => onB_up z) L h G
theorem bind3 {ea eb ec : Expr} {R R' : RD2} {r r' : R2} {Q : D → Cells → Prop} {Q' : VK} (k : ∀ v H', upE X.K F δ σ Q v H' → Q' v H') (L : Lift2 X r R) (L' : Lift2 X r' R')
    (h : WE X P ea δ M fun d M1 => WE X P eb δ M1 fun e M2 => R d e M2 fun z M3 => ∃ b, z = .bl b ∧ if b = true then WE X P ec δ M3 fun f M4 => R' e f M4 Q else Q (.bl false) M3) (G : Go X P F M δ σ H) : tChain r r' (tE X ea) (tE X eb) (tE X ec) σ H Q' :=
  h.go G fun v H1 F1 M1 d s1 G1 r1 q1 => q1.go G1 fun u H2 F2 M2 e s2 G2 r2 q2 => L (fun v3 H3 z => by
    obtain ⟨F3, M3, d3, s3, S3, r3, b, rfl, q3⟩ := z
    cases r3
    refine ⟨b, rfl, ?_⟩
    have s03 : Same F F3 := (s1.trans s2).trans s3
    cases b with
    | false => rw [if_neg (by decide)] at q3 ⊢; exact k _ _ ⟨F3, M3, _, s03, S3, .bl _, q3⟩
    | true =>
      rw [if_pos rfl] at q3 ⊢
      exact q3.go ⟨S3, G2.tk.up s3⟩ fun w H4 F4 M4 f s4 G4 r4 q4 => L' k (s03.trans s4) G4.st (r2.up (s3.trans s4)) r4 q4) (Same.refl F2) G2.st (r1.up s2) r2 q2
theorem we_chain {op op' : CmpOp} {R R' : RD2} {r r' : R2} {Q : D → Cells → Prop} (ho : OpR X (compareOp op) r) (ho' : OpR X (compareOp op') r') (L : Lift2 X r R) (L' : Lift2 X r' R')
    (h : WE X P a δ M fun d M1 => WE X P b δ M1 fun e M2 => R d e M2 fun z M3 => ∃ k, z = .bl k ∧ if k = true then WE X P c δ M3 fun f M4 => R' e f M4 Q else Q (.bl false) M3)
    (hm : lastMarks [op, op'] [b, c] = false := by with_unfolding_all rfl) : WE X P (.Compare a [op, op'] [b, c] pos) δ M Q :=
  we_of (pe_chain ho ho' pe_sem pe_sem pe_sem hm) fun σ H F G => bind3 (fun _ _ z => z) L L' h G
theorem wt_chain {op op' : CmpOp} {R R' : RD2} {r r' : R2} {Q : Bool → Cells → Prop} (ho : OpR X (compareOp op) r) (ho' : OpR X (compareOp op') r') (L : Lift2 X r R) (L' : Lift2 X r' R')
    (h : WE X P a δ M fun d M1 => WE X P b δ M1 fun e M2 => R d e M2 fun z M3 => ∃ k, z = .bl k ∧ if k = true then WE X P c δ M3 fun f M4 => R' e f M4 (onB Q) else onB Q (.bl false) M3)
    (hm : lastMarks [op, op'] [b, c] = false := by with_unfolding_all rfl) : WT X P (.Compare a [op, op'] [b, c] pos) δ M Q :=
  wt_of (pt_chain ho ho' pe_sem pe_sem pe_sem hm) fun σ H F G => bind3 (fun _ _ z => onB_up z) L L' h G

theorem wt_val {Q : Bool → Cells → Prop} (h : WE X P e δ M (onB Q)) (he : ∀ whole, isTrue e X.env whole = (do let v ← whole; standAt e.pos; holding [v] (truthy v)) := by intro _; rfl) : WT X P e δ M Q :=
  wt_of (pt_val pe_sem he) fun σ H F G => h.go G fun v H' F' M' d s G' r q => onB_up (ret G'.st s r q)
theorem wt_not {Q : Bool → Cells → Prop} (h : WT X P a δ M fun k M' => Q (!k) M') : WT X P (.UnaryOp .Not a pos) δ M Q :=
  wt_of (pt_not pt_sem) fun σ H F G => h.go G fun v H' F' M' s G' q => ⟨F', M', s, G'.st, q⟩
theorem ww_wt {Q : Bool → Cells → Prop} (h : WW X P e δ M Q) : WT X P e δ M Q := wt_of pw_sem.pt h
theorem ww_and1 {Q : Bool → Cells → Prop} (h : WT X P a δ M Q) : WW X P (.BoolOp .And [a] pos) δ M Q := ww_of (pw_and1 pt_sem) h
theorem ww_or1 {Q : Bool → Cells → Prop} (h : WT X P a δ M Q) : WW X P (.BoolOp .Or [a] pos) δ M Q := ww_of (pw_or1 pt_sem) h
theorem ww_and {Q : Bool → Cells → Prop} (h : WT X P a δ M fun k M' => if k = true then WW X P (.BoolOp .And (b :: es) pos) δ M' Q else Q false M') : WW X P (.BoolOp .And (a :: b :: es) pos) δ M Q :=
  ww_of (pw_and pt_sem pw_sem) fun σ H F G => h.go G fun v H' F' M' s G' q => by
    cases v with
    | true => rw [if_pos rfl] at q ⊢; exact q.go G' fun _ _ F2 M2 s2 G2 q2 => ⟨F2, M2, s.trans s2, G2.st, q2⟩
    | false => rw [if_neg (by decide)] at q ⊢; exact ⟨F', M', s, G'.st, q⟩
theorem ww_or {Q : Bool → Cells → Prop} (h : WT X P a δ M fun k M' => if k = true then Q true M' else WW X P (.BoolOp .Or (b :: es) pos) δ M' Q) : WW X P (.BoolOp .Or (a :: b :: es) pos) δ M Q :=
  ww_of (pw_or pt_sem pw_sem) fun σ H F G => h.go G fun v H' F' M' s G' q => by
    cases v with
    | true => rw [if_pos rfl] at q ⊢; exact ⟨F', M', s, G'.st, q⟩
    | false => rw [if_neg (by decide)] at q ⊢; exact q.go G' fun _ _ F2 M2 s2 G2 q2 => ⟨F2, M2, s.trans s2, G2.st, q2⟩
theorem we_one {op} {Q : D → Cells → Prop} (h : WE X P a δ M Q) : WE X P (.BoolOp op [a] pos) δ M Q := we_of (pe_one pe_sem) h
theorem we_and {Q : D → Cells → Prop} (h : WE X P a δ M fun d M' => ∃ k, d = .bl k ∧ if k = true then WE X P (.BoolOp .And (b :: es) pos) δ M' Q else Q (.bl false) M') : WE X P (.BoolOp .And (a :: b :: es) pos) δ M Q :=
  we_of (pe_and pe_sem pe_sem) fun σ H F G => h.go G fun v H' F' M' d s G' r q => by
    obtain ⟨k, rfl, q⟩ := q
    cases r
    refine ⟨k, rfl, ?_⟩
    cases k with
    | true => rw [if_pos rfl] at q ⊢; exact q.go G' fun _ _ F2 M2 _ s2 G2 r2 q2 => ret G2.st (s.trans s2) r2 q2
    | false => rw [if_neg (by decide)] at q ⊢; exact ret G'.st s (.bl _) q
theorem we_or {Q : D → Cells → Prop} (h : WE X P a δ M fun d M' => ∃ k, d = .bl k ∧ if k = true then Q (.bl true) M' else WE X P (.BoolOp .Or (b :: es) pos) δ M' Q) : WE X P (.BoolOp .Or (a :: b :: es) pos) δ M Q :=
  we_of (pe_or pe_sem pe_sem) fun σ H F G => h.go G fun v H' F' M' d s G' r q => by
    obtain ⟨k, rfl, q⟩ := q
    cases r
    refine ⟨k, rfl, ?_⟩
    cases k with
    | true => rw [if_pos rfl] at q ⊢; exact ret G'.st s (.bl _) q
    | false => rw [if_neg (by decide)] at q ⊢; exact q.go G' fun _ _ F2 M2 _ s2 G2 r2 q2 => ret G2.st (s.trans s2) r2 q2
theorem we_not {Q : D → Cells → Prop} (h : WE X P a δ M fun d M' => ∃ k, d = .bl k ∧ Q (.bl (!k)) M') : WE X P (.UnaryOp .Not a pos) δ M Q :=
  we_of (pe_not pe_sem) fun σ H F G => h.go G fun v H' F' M' d s G' r q => by
    obtain ⟨k, rfl, q⟩ := q
    cases r
    exact ⟨k, rfl, ret G'.st s (.bl _) q⟩
theorem we_if {Q : D → Cells → Prop} (h : WT X P c δ M fun k M' => if k = true then WE X P a δ M' Q else WE X P b δ M' Q) : WE X P (.IfExp c a b pos) δ M Q :=
  we_of (pe_ifExp pt_sem pe_sem pe_sem) fun σ H F G => h.go G fun v H' F' M' s G' q => by
    cases v with
    | true => rw [if_pos rfl] at q ⊢; exact q.go G' fun _ _ F2 M2 _ s2 G2 r2 q2 => ret G2.st (s.trans s2) r2 q2
    | false => rw [if_neg (by decide)] at q ⊢; exact q.go G' fun _ _ F2 M2 _ s2 G2 r2 q2 => ret G2.st (s.trans s2) r2 q2

theorem wa_nil {Q : List D → Cells → Prop} (h : Q [] M) : WA X P [] δ M Q := wa_of pa_nil fun σ H F G => ⟨F, M, [], Same.refl _, G.st, .nil, h⟩
theorem wa_cons {Q : List D → Cells → Prop} (h : WE X P e δ M fun d M1 => WA X P es δ M1 fun ds M2 => Q (d :: ds) M2) (hs : starEach (e :: es) X.env = (false, eval e X.env) :: starEach es X.env := by rfl) : WA X P (e :: es) δ M Q :=
  wa_of (pa_cons pe_sem pa_sem hs) fun σ H F G => h.go G fun v H1 F1 M1 d s1 G1 r1 q1 => q1.go G1 fun vs H2 F2 M2 ds s2 G2 r2 q2 => ⟨F2, M2, d :: ds, s1.trans s2, G2.st, .cons (r1.up s2) r2, q2⟩
theorem we_tup {x1} {Q : D → Cells → Prop} (h : WA X P es δ M fun ds M1 => ds.length ≤ sizeLine ∧ Q (.tup ds) M1) : WE X P (.Tuple es x1 pos) δ M Q :=
  we_of (pe_tup pa_sem) fun σ H F G => h.go G fun vs H1 F1 M1 ds s1 G1 r1 q1 => ⟨by rw [r1.length]; exact q1.1, fun p hp => by
    obtain ⟨S, s⟩ := G1.st.froz (o := .tup vs) hp
    exact ret S (s1.trans s) (.tup (.of upd_same) (r1.up s)) q1.2⟩
/-- [..], frozen -/
theorem we_lst {Q : D → Cells → Prop} (h : WA X P es δ M fun ds M1 => ds.length ≤ sizeLine ∧ Q (.lst ds) M1) : WE X P (.List es pos) δ M Q :=
  we_of (pe_lst pa_sem) fun σ H F G => h.go G fun vs H1 F1 M1 ds s1 G1 r1 q1 => ⟨by rw [r1.length]; exact q1.1, fun p hp => by
    obtain ⟨S, s⟩ := G1.st.froz (o := .lst vs) hp
    exact ret S (s1.trans s) (.lst (.of upd_same) (r1.up s)) q1.2⟩
theorem Stt.newL {K : PySem.W.Frag} {F : Hp} {M : Cells} {δ : Slots} {σ : L2.St} {H : Hp} (S : Stt K F M δ σ H) {p : Addr} {vs : List V} {ds : List D} (hp : H p = none) (r : Reps K F vs ds) : Stt K F ((p, .lst ds) :: M) δ σ (upd H p (.lst vs)) :=
  S.newCell hp ⟨vs, upd_same, r⟩
/-- [..], a cell -/
theorem we_lstC {Q : D → Cells → Prop} (h : WA X P es δ M fun ds M1 => ds.length ≤ sizeLine ∧ ∀ p, Q (.cel p) ((p, .lst ds) :: M1)) : WE X P (.List es pos) δ M Q :=
  we_of (pe_lst pa_sem) fun σ H F G => h.go G fun vs H1 F1 M1 ds s1 G1 r1 q1 => ⟨by rw [r1.length]; exact q1.1, fun p hp => ret (G1.st.newL hp r1) s1 (.cel p) (q1.2 p)⟩
/-- a cell is frozen -/
theorem we_froz (k : Nat) {Q : D → Cells → Prop} (h : WE X P e δ M fun d M1 => ∃ (p : Addr) (ds : List D), d = .cel p ∧ M1[k]? = some (p, .lst ds) ∧ Q (.lst ds) (M1.eraseIdx k)) : WE X P e δ M Q := fun σ H F G =>
  h.go G fun v H1 F1 M1 d s1 G1 r1 q1 => by
    obtain ⟨p, ds, rfl, hk, q⟩ := q1
    cases r1
    obtain ⟨F2, s2, S2, r2⟩ := G1.st.freeze hk
    exact ret S2 (s1.trans s2) r2 q
end
end PW
/-! PW3 -/
namespace PW
open PySem L2 PyProof.Rows

section
variable {X : Cx} {P : XP} {F : Hp} {M : Cells} {δ : Slots} {σ : L2.St} {H : Hp} {e a b c o : Expr} {es : List Expr} {pos apos p p2 : Pos}

theorem lift_I {C : Int → Int → Prop} {g : Int → Int → Int} : Lift2 X (rI C fun i j => .int (g i j)) (fun d e M Q => ∃ i j, d = .int i ∧ e = .int j ∧ C i j ∧ Q (.int (g i j)) M) := fun k s S r1 r2 h => by
  obtain ⟨i, j, rfl, rfl, hc, q⟩ := h
  cases r1; cases r2
  exact ⟨i, j, rfl, rfl, hc, k _ _ (ret S s (.int _) q)⟩
theorem lift_I0 {g : Int → Int → Int} : Lift2 X (rI0 fun i j => .int (g i j)) (fun d e M Q => ∃ i j, d = .int i ∧ e = .int j ∧ Q (.int (g i j)) M) := fun k s S r1 r2 h => by
  obtain ⟨i, j, rfl, rfl, q⟩ := h
  cases r1; cases r2
  exact ⟨i, j, rfl, rfl, k _ _ (ret S s (.int _) q)⟩
theorem lift_B0 {g : Int → Int → Bool} : Lift2 X (rI0 fun i j => .bl (g i j)) (fun d e M Q => ∃ i j, d = .int i ∧ e = .int j ∧ Q (.bl (g i j)) M) := fun k s S r1 r2 h => by
  obtain ⟨i, j, rfl, rfl, q⟩ := h
  cases r1; cases r2
  exact ⟨i, j, rfl, rfl, k _ _ (ret S s (.bl _) q)⟩
theorem Lift2.or {r r' : R2} {R R' : RD2} (h : Lift2 X r R) (h' : Lift2 X r' R') : Lift2 X (fun x y H Q => r x y H Q ∨ r' x y H Q) (fun d e M Q => R d e M Q ∨ R' d e M Q) := fun k s S r1 r2 q => q.elim (fun q => .inl (h k s S r1 r2 q)) fun q => .inr (h' k s S r1 r2 q)
theorem LiftA.or {r r' : List V → Hp → VK → Prop} {R R' : RDA} (h : LiftA X r R) (h' : LiftA X r' R') : LiftA X (fun x H Q => r x H Q ∨ r' x H Q) (fun d M Q => R d M Q ∨ R' d M Q) := fun k s S r1 q => q.elim (fun q => .inl (h k s S r1 q)) fun q => .inr (h' k s S r1 q)

def rCatQ (K : PySem.W.Frag) : R2 := fun x y H Q => ∃ l b xs zs, x = .ref l ∧ y = .ref b ∧ SqL K H l xs ∧ SqL K H b zs ∧ xs.length + zs.length ≤ sizeLine ∧ ∀ p, H p = none → Q (.ref p) (upd H p (.lst (xs ++ zs)))
theorem op_catQ : OpR X (binaryOp .Add) (rCatQ X.K) := by
  intro pins s σ H x y v u Q I rx ry h
  obtain ⟨l, b, xs, zs, rfl, rfl, hH, hB, hz, q⟩ := h
  cases rx
  cases ry
  obtain ⟨its, r, ⟨o, n, e, c, d0, d⟩, z⟩ := I.list hH
  obtain ⟨its2, r2, ⟨o2, n2, e2, c2, d02, d2⟩, z2⟩ := I.list hB
  have l1 := r.length
  have l2 := r2.length
  obtain ⟨oc, od, dt, sl⟩ := o
  obtain ⟨oc2, od2, dt2, sl2⟩ := o2
  simp only at c d0 d c2 d02 d2
  subst c d0 d c2 d02 d2
  have ea : its.toArray ++ its2.toArray = (its ++ its2).toArray := by simp
  refine concat_meets ⟨_, e, rfl⟩ ⟨_, e2, rfl⟩ noFill_list_add seq_list_add PySem.F.slot_list_add PySem.F.entry_list_add (PySem.F.args_list_add_2 _ _) (list_addW l b its.toArray its2.toArray n n2 none none sl sl2 (by rw [List.size_toArray, List.size_toArray, ← l1, ← l2]; exact hz)) ⟨e, e2, ?_⟩
  rw [ea]
  exact ⟨.ref _, _, I.lnew (t' := s.toks) (r.append r2) (by rw [List.length_append]; omega), rfl, q _ I.fresh⟩
theorem lift_cat : Lift2 X (rCatQ X.K) (fun d e M Q => ∃ ds es, LV M d ds ∧ LV M e es ∧ ds.length + es.length ≤ sizeLine ∧ Q (.lst (ds ++ es)) M) := fun k s S r1 r2 h => by
  obtain ⟨ds, es, h1, h2, hl, q⟩ := h
  obtain ⟨l, xs, rfl, q1, z1⟩ := S.readL r1 h1
  obtain ⟨l2, ys, rfl, q2, z2⟩ := S.readL r2 h2
  refine ⟨l, l2, xs, ys, rfl, rfl, q1, q2, by rw [z1.length, z2.length]; exact hl, fun p hp => k _ _ ?_⟩
  obtain ⟨S', s'⟩ := S.froz (o := .lst (xs ++ ys)) hp
  exact ret S' (s.trans s') (.lst (.of upd_same) ((z1.append z2).up s')) q
theorem lift_addS : Lift2 X (fun x y H Q => ∃ i j, x = .str i ∧ y = .str j ∧ i.length + j.length ≤ sizeLine ∧ Q (.str (i ++ j)) H) (fun d e M Q => ∃ i j, d = .str i ∧ e = .str j ∧ i.length + j.length ≤ sizeLine ∧ Q (.str (i ++ j)) M) := fun k s S r1 r2 h => by
  obtain ⟨i, j, rfl, rfl, hl, q⟩ := h
  cases r1; cases r2
  exact ⟨i, j, rfl, rfl, hl, k _ _ (ret S s (.str _) q)⟩
def RAdd : RD2 := fun d e M Q => (∃ i j, d = .int i ∧ e = .int j ∧ Q (.int (i + j)) M) ∨ (∃ i j, d = .str i ∧ e = .str j ∧ i.length + j.length ≤ sizeLine ∧ Q (.str (i ++ j)) M) ∨ (∃ ds es, LV M d ds ∧ LV M e es ∧ ds.length + es.length ≤ sizeLine ∧ Q (.lst (ds ++ es)) M)
theorem we_add {Q : D → Cells → Prop} (h : WE X P a δ M fun d M1 => WE X P b δ M1 fun e M2 => RAdd d e M2 Q) : WE X P (.BinOp a .Add b pos) δ M Q := we_op (op_add.or (op_add_str.or op_catQ)) (lift_I0.or (lift_addS.or lift_cat)) h
theorem we_sub {Q : D → Cells → Prop} (h : WE X P a δ M fun d M1 => WE X P b δ M1 fun e M2 => ∃ i j, d = .int i ∧ e = .int j ∧ Q (.int (i - j)) M2) : WE X P (.BinOp a .Sub b pos) δ M Q := we_op op_sub lift_I0 h
theorem op_mulQ : OpR X (binaryOp .Mult) (rI IntMulOk fun i j => .int (i * j)) := opI fun _ _ _ _ _ _ _ hc q => mul_int q hc
theorem we_mul {Q : D → Cells → Prop} (h : WE X P a δ M fun d M1 => WE X P b δ M1 fun e M2 => ∃ i j, d = .int i ∧ e = .int j ∧ IntMulOk i j ∧ Q (.int (i * j)) M2) : WE X P (.BinOp a .Mult b pos) δ M Q := we_op op_mulQ lift_I h
theorem we_fdiv {Q : D → Cells → Prop} (h : WE X P a δ M fun d M1 => WE X P b δ M1 fun e M2 => ∃ i j, d = .int i ∧ e = .int j ∧ CDivW i j ∧ Q (.int (i / j)) M2) : WE X P (.BinOp a .FloorDiv b pos) δ M Q := we_op op_fdivW lift_I h
theorem we_mod {Q : D → Cells → Prop} (h : WE X P a δ M fun d M1 => WE X P b δ M1 fun e M2 => ∃ i j, d = .int i ∧ e = .int j ∧ 0 < j ∧ Q (.int (i % j)) M2) : WE X P (.BinOp a .Mod b pos) δ M Q := we_op op_mod lift_I h
theorem we_modN {Q : D → Cells → Prop} (h : WE X P a δ M fun d M1 => WE X P b δ M1 fun e M2 => ∃ i j, d = .int i ∧ e = .int j ∧ j ≠ 0 ∧ Q (.int (i.fmod j)) M2) : WE X P (.BinOp a .Mod b pos) δ M Q := we_op op_modN lift_I h
def CPw (i j : Int) : Prop := 0 ≤ j ∧ (Builtin.Int.intBits i : Int) * j ≤ 2 ^ 27
theorem op_powQ : OpR X (binaryOp .Pow) (rI CPw fun i j => .int (i ^ j.toNat)) := opI fun _ _ _ _ _ _ _ hc q => pow_int hc.1 hc.2 q
theorem we_pow {Q : D → Cells → Prop} (h : WE X P a δ M fun d M1 => WE X P b δ M1 fun e M2 => ∃ i j, d = .int i ∧ e = .int j ∧ CPw i j ∧ Q (.int (i ^ j.toNat)) M2) : WE X P (.BinOp a .Pow b pos) δ M Q := we_op op_powQ lift_I h
theorem we_neg {Q : D → Cells → Prop} (h : WE X P a δ M fun d M1 => ∃ i, d = .int i ∧ Q (.int (-i)) M1) : WE X P (.UnaryOp .USub a pos) δ M Q := we_un (R := fun d M1 Q => ∃ i, d = .int i ∧ Q (.int (-i)) M1) un_neg (fun k s S r1 h => by
  obtain ⟨i, rfl, q⟩ := h
  cases r1
  exact ⟨i, rfl, k _ _ (ret S s (.int _) q)⟩) h

theorem we_lt {Q : D → Cells → Prop} (h : WE X P a δ M fun d M1 => WE X P b δ M1 fun e M2 => ∃ i j, d = .int i ∧ e = .int j ∧ Q (.bl (decide (i < j))) M2) : WE X P (.Compare a [.Lt] [b] pos) δ M Q := we_cmp op_lt lift_B0 (nomark _) h
theorem we_gt {Q : D → Cells → Prop} (h : WE X P a δ M fun d M1 => WE X P b δ M1 fun e M2 => ∃ i j, d = .int i ∧ e = .int j ∧ Q (.bl (decide (j < i))) M2) : WE X P (.Compare a [.Gt] [b] pos) δ M Q := we_cmp op_gt lift_B0 (nomark _) h
theorem wt_lt {Q : Bool → Cells → Prop} (h : WE X P a δ M fun d M1 => WE X P b δ M1 fun e M2 => ∃ i j, d = .int i ∧ e = .int j ∧ Q (decide (i < j)) M2) : WT X P (.Compare a [.Lt] [b] pos) δ M Q := wt_cmp op_lt lift_B0 (nomark _) (h.imp fun d M1 q => q.imp fun e M2 ⟨i, j, h1, h2, q⟩ => ⟨i, j, h1, h2, _, rfl, q⟩)
theorem wt_gt {Q : Bool → Cells → Prop} (h : WE X P a δ M fun d M1 => WE X P b δ M1 fun e M2 => ∃ i j, d = .int i ∧ e = .int j ∧ Q (decide (j < i)) M2) : WT X P (.Compare a [.Gt] [b] pos) δ M Q := wt_cmp op_gt lift_B0 (nomark _) (h.imp fun d M1 q => q.imp fun e M2 ⟨i, j, h1, h2, q⟩ => ⟨i, j, h1, h2, _, rfl, q⟩)
mutual
def py : D → PyData
  | .non => .none | .bl b => .bool b | .int i => .int i | .str x => .str x | .tup ds => .tuple (pys ds) | .lst ds => .list (pys ds) | .cel _ => .none | .raw _ => .none | .exc _ _ _ => .none
def pys : List D → List PyData
  | [] => []
  | d :: ds => py d :: pys ds
end
mutual
/-- no cell, nothing raw within -/
def okD : D → Bool
  | .tup ds => okDs ds | .lst ds => okDs ds | .cel _ => false | .raw _ => false | .exc _ _ _ => false | _ => true
def okDs : List D → Bool
  | [] => true
  | d :: ds => okD d && okDs ds
end
mutual
theorem Rep.dp {K : PySem.W.Frag} {F H : Hp} (s : Same F H) : ∀ (d : D) (v : V), Rep K F v d → okD d = true → Dp K H v (py d)
  | .non, _, h, _ => by cases h; exact .non
  | .bl _, _, h, _ => by cases h; exact .bl _
  | .int _, _, h, _ => by cases h; exact .int _
  | .str _, _, h, _ => by cases h; exact .str _
  | .tup ds, _, h, k => by cases h with | tup a b => exact .tup (Same.tup s a) (Reps.dp s ds _ b k)
  | .lst ds, _, h, k => by cases h with | lst a b => exact .lst (s.seq a) (Reps.dp s ds _ b k)
  | .cel _, _, _, k => by cases k
  | .raw _, _, _, k => by cases k
  | .exc _ _ _, _, _, k => by cases k
theorem Reps.dp {K : PySem.W.Frag} {F H : Hp} (s : Same F H) : ∀ (ds : List D) (vs : List V), Reps K F vs ds → okDs ds = true → DpAll K H vs (pys ds)
  | [], _, h, _ => by cases h; exact .nil
  | d :: ds, _, h, k => by
    cases h with
    | cons a b =>
      have k' : (okD d && okDs ds) = true := k
      rw [Bool.and_eq_true] at k'
      exact .cons (Rep.dp s d _ a k'.1) (Reps.dp s ds _ b k'.2)
end
/-- d is data, frozen or a cell of such -/
def PV (M : Cells) (d : D) (q : PyData) : Prop := (okD d = true ∧ q = py d) ∨ ∃ (k : Nat) (a : Addr) (ds : List D), d = .cel a ∧ M[k]? = some (a, .lst ds) ∧ okDs ds = true ∧ q = .list (pys ds)
theorem PV.fz {M : Cells} {d : D} (h : okD d = true) : PV M d (py d) := .inl ⟨h, rfl⟩
theorem PV.cl {M : Cells} {a : Addr} {ds : List D} (k : Nat) (h : M[k]? = some (a, .lst ds)) (g : okDs ds = true) : PV M (.cel a) (.list (pys ds)) := .inr ⟨k, a, ds, rfl, h, g, rfl⟩
theorem Stt.readP {K : PySem.W.Frag} (S : Stt K F M δ σ H) {v : V} {d : D} {q : PyData} (r : Rep K F v d) (h : PV M d q) : Dp K H v q := by
  rcases h with ⟨h, rfl⟩ | ⟨k, a, ds, rfl, h1, h2, rfl⟩
  · exact Rep.dp S.le d v r h
  · cases r
    obtain ⟨vs, e1, e2, e3⟩ := S.cellAt (List.mem_of_getElem? h1)
    exact .lst (.of e1) (Reps.dp S.le ds vs e3 h2)
theorem lift_eqD : Lift2 X (rEqD X.K) (fun d e M Q => ∃ p q, PV M d p ∧ PV M e q ∧ SeqAt.shaped p = true ∧ SeqAt.shaped q = true ∧ Q (.bl (PyData.eqv p q)) M) := fun k s S r1 r2 h => by
  obtain ⟨p, q, h1, h2, s1, s2, z⟩ := h
  exact ⟨p, q, S.readP r1 h1, S.readP r2 h2, s1, s2, k _ _ (ret S s (.bl _) z)⟩
theorem lift_neD : Lift2 X (rNeD X.K) (fun d e M Q => ∃ p q, PV M d p ∧ PV M e q ∧ SeqAt.shaped p = true ∧ SeqAt.shaped q = true ∧ Q (.bl (!PyData.eqv p q)) M) := fun k s S r1 r2 h => by
  obtain ⟨p, q, h1, h2, s1, s2, z⟩ := h
  exact ⟨p, q, S.readP r1 h1, S.readP r2 h2, s1, s2, k _ _ (ret S s (.bl _) z)⟩
def dOf : V → D
  | .non => .non | .bl b => .bl b | .int i => .int i | .str x => .str x | v => .raw v
theorem scal_rep {K : PySem.W.Frag} {v : V} {d : D} (x : V) (r : Rep K F v d) (h : d = dOf x) : v = x := by
  subst h
  cases x <;> (cases r; rfl)
/-- == of scalars: both ints, both texts, both bools, one of them None -/
def RScal (neg : Bool) : RD2 := fun d e M Q => ∃ x y : V, d = dOf x ∧ e = dOf y ∧ scal x y = true ∧ Q (.bl (if neg then !decide (x = y) else decide (x = y))) M
theorem lift_eqS : Lift2 X rEq (RScal false) := fun k s S r1 r2 h => by
  obtain ⟨x, y, h1, h2, h3, q⟩ := h
  rw [scal_rep x r1 h1, scal_rep y r2 h2]
  exact ⟨h3, k _ _ (ret S s (.bl _) q)⟩
theorem lift_neS : Lift2 X rNe (RScal true) := fun k s S r1 r2 h => by
  obtain ⟨x, y, h1, h2, h3, q⟩ := h
  rw [scal_rep x r1 h1, scal_rep y r2 h2]
  exact ⟨h3, k _ _ (ret S s (.bl _) q)⟩
/-- is None, is not None -/
def isNonD : D → Bool | .non => true | _ => false
theorem lift_notN : Lift2 X (fun x y H Q => y = .non ∧ Q (.bl (!decide (x = .non))) H) (fun d e M Q => e = .non ∧ (∀ v, d ≠ .raw v) ∧ Q (.bl (!isNonD d)) M) := fun k s S r1 r2 h => by
  obtain ⟨rfl, hr, q⟩ := h
  cases r2
  refine ⟨rfl, k _ _ ?_⟩
  cases r1 <;> first
    | exact ret S s (.bl _) q
    | exact absurd rfl (hr _)
theorem wt_notN {j pos'} {Q : Bool → Cells → Prop} (h : WE X P a δ M fun d M1 => (∀ v, d ≠ .raw v) ∧ Q (!isNonD d) M1) : WT X P (.Compare a [.IsNot] [.Constant .none j pos'] pos) δ M Q := wt_cmp op_notN lift_notN (nomark _) (h.imp fun d M1 q => we_non ⟨rfl, q.1, _, rfl, q.2⟩)

theorem reps_at {K : PySem.W.Frag} {vs : List V} {ds : List D} {i : Int} {d : D} (r : Reps K F vs ds) (h : atI ds i = some d) : ∃ v, atI vs i = some v ∧ Rep K F v d := by
  unfold atI at h ⊢
  rw [r.length]
  cases e : ixN ds.length i with
  | none => rw [e] at h; cases h
  | some j =>
    rw [e] at h
    exact r.get h
theorem lift_ixL : Lift2 X (rIxL X.K) (fun d e M Q => ∃ ds i z, LV M d ds ∧ e = .int i ∧ atI ds i = some z ∧ Q z M) := fun k s S r1 r2 h => by
  obtain ⟨ds, i, z, h1, rfl, h2, q⟩ := h
  cases r2
  obtain ⟨l, xs, rfl, q1, z1⟩ := S.readL r1 h1
  obtain ⟨v, e1, e2⟩ := reps_at z1 h2
  exact ⟨l, xs, i, v, rfl, rfl, q1, e1, k _ _ (ret S s e2 q)⟩
theorem lift_ixT : Lift2 X (rIxT X.K) (fun d e M Q => ∃ ds i z, d = .tup ds ∧ e = .int i ∧ atI ds i = some z ∧ Q z M) := fun k s S r1 r2 h => by
  obtain ⟨ds, i, z, rfl, rfl, h2, q⟩ := h
  cases r2
  obtain ⟨l, xs, rfl, q1, z1⟩ := S.readT r1
  obtain ⟨v, e1, e2⟩ := reps_at z1 h2
  exact ⟨l, xs, i, v, rfl, rfl, q1, e1, k _ _ (ret S s e2 q)⟩
theorem lift_ixS : Lift2 X rIxS (fun d e M Q => ∃ z i c, d = .str z ∧ e = .int i ∧ z.length ≤ sizeLine ∧ atI z.cps.toList i = some c ∧ Q (.str ⟨#[c]⟩) M) := fun k s S r1 r2 h => by
  obtain ⟨z, i, c, rfl, rfl, h1, h2, q⟩ := h
  cases r1; cases r2
  exact ⟨z, i, c, rfl, rfl, h1, h2, k _ _ (ret S s (.str _) q)⟩
def cutD (xs : List D) (lo hi : Option Int) : List D := (xs.drop (HT.sIx xs.length 0 lo)).take (HT.sIx xs.length xs.length hi - HT.sIx xs.length 0 lo)
theorem reps_cut {K : PySem.W.Frag} {vs : List V} {ds : List D} (r : Reps K F vs ds) (lo hi : Option Int) : Reps K F (cutV vs lo hi) (cutD ds lo hi) := by
  unfold cutV cutD
  rw [r.length]
  exact (r.drop _).take _
def tO (X : Cx) (e : Option Expr) : L2.TO := fun σ H Q => ∀ pins s, Inv X pins σ H s → wpAny (model X.prog X.w) X.A (evalPart e X.env) (fun u s' => ∃ o H', Inv X pins σ H' s' ∧ IsPart u o ∧ Q o H') X.xe s
theorem po_sem {X : Cx} {e : Option Expr} : PO X e (tO X e) := ⟨fun pins s _ _ _ I h => h pins s I⟩
def upO (K : PySem.W.Frag) (F : Hp) (δ : Slots) (σ : L2.St) (Q : Option Int → Cells → Prop) : Option Int → Hp → Prop := fun b H' => ∃ F' M', Same F F' ∧ Stt K F' M' δ σ H' ∧ Q b M'
def WO (X : Cx) (P : XP) (e : Option Expr) (δ : Slots) (M : Cells) (Q : Option Int → Cells → Prop) : Prop := ∀ σ H F, Go X P F M δ σ H → tO X e σ H (upO X.K F δ σ Q)
theorem wo_none {Q : Option Int → Cells → Prop} (h : Q none M) : WO X P none δ M Q := fun σ H F G pins s I => po_none.run pins s σ H _ I ⟨F, M, Same.refl _, G.st, h⟩
theorem wo_some {Q : Option Int → Cells → Prop} (h : WE X P e δ M fun d M1 => ∃ i, d = .int i ∧ Q (some i) M1) : WO X P (some e) δ M Q := fun σ H F G pins s I => (po_some pe_sem).run pins s σ H _ I (h.go G fun v H1 F1 M1 d s1 G1 r1 q1 => by
  obtain ⟨i, rfl, q⟩ := q1
  cases r1
  exact ⟨i, rfl, F1, M1, s1, G1.st, q⟩)
theorem tO.mono {e : Option Expr} {Q Q' : Option Int → Hp → Prop} (h : tO X e σ H Q) (k : ∀ v H', Q v H' → Q' v H') : tO X e σ H Q' := fun pins s I => thn (h pins s I) fun _ _ ⟨o, H', I', p, q⟩ => ⟨o, H', I', p, k _ _ q⟩
theorem we_sliceC {lo hi : Option Expr} {Q : D → Cells → Prop} (h : WE X P e δ M fun d M1 => WO X P lo δ M1 fun l M2 => WO X P hi δ M2 fun u M3 => ∃ ds, LV M3 d ds ∧ ∀ p, Q (.cel p) ((p, .lst (cutD ds l u)) :: M3)) : WE X P (.Subscript e (.Slice lo hi none p2) pos) δ M Q :=
  we_of (pe_slice sl_list pe_sem po_sem po_sem) fun σ H F G => h.go G fun v H1 F1 M1 d s1 G1 r1 q1 => (q1 σ H1 F1 G1).mono fun l H2 ⟨F2, M2, s2, S2, q2⟩ => (q2 σ H2 F2 ⟨S2, G1.tk.up s2⟩).mono fun u H3 ⟨F3, M3, s3, S3, ds, h1, q3⟩ => by
    obtain ⟨a, xs, rfl, e1, e2⟩ := S3.readL (r1.up (s2.trans s3)) h1
    exact ⟨a, xs, rfl, e1, fun p hp => ret (S3.newL hp (reps_cut e2 l u)) ((s1.trans s2).trans s3) (.cel p) (q3 p)⟩
theorem we_callB {x : Str} {id : String} {r : List V → Hp → VK → Prop} {R : RDA} {Q : D → Cells → Prop} (hc : CallR X (.builtin id) r) (L : LiftA X r R) (hg : Gl X x) (hm : X.mg x = none) (hv : bootBuiltins x = some (.builtin id)) (h : WA X P (e :: es) δ M fun ds M1 => R ds M1 Q) (hn : x ≠ "__name__" := by decide) (hdb : (x == ("__debug__" : Str)) = false := by decide)
    (he : starEach (e :: es) X.env = (false, eval e X.env) :: starEach es X.env := by rfl) (hpl : (backTo pos (starEach es X.env)).any (·.1) = false := by rfl) : WE X P (.Call (.Name x p) (e :: es) [] pos) δ M Q :=
  we_of (pe_callB hc hg hm hv pa_sem hn hdb he hpl) fun σ H F G => h.go G fun vs H1 F1 M1 ds s1 G1 r1 q1 => L (fun _ _ z => z) s1 G1.st r1 q1
theorem we_callTy {x : Str} {T : String} {r : List V → Hp → VK → Prop} {R : RDA} {Q : D → Cells → Prop} (hc : CallR X (.type T) r) (L : LiftA X r R) (hg : Gl X x) (hm : X.mg x = none) (hv : bootBuiltins x = some (.type T)) (h : WA X P (e :: es) δ M fun ds M1 => R ds M1 Q) (hn : x ≠ "__name__" := by decide) (hdb : (x == ("__debug__" : Str)) = false := by decide)
    (he : starEach (e :: es) X.env = (false, eval e X.env) :: starEach es X.env := by rfl) (hpl : (backTo pos (starEach es X.env)).any (·.1) = false := by rfl) : WE X P (.Call (.Name x p) (e :: es) [] pos) δ M Q :=
  we_of (pe_callTy hc hg hm hv pa_sem hn hdb he hpl) fun σ H F G => h.go G fun vs H1 F1 M1 ds s1 G1 r1 q1 => L (fun _ _ z => z) s1 G1.st r1 q1
theorem Reps.one {K : PySem.W.Frag} {vs : List V} {d : D} (h : Reps K F vs [d]) : ∃ v, vs = [v] ∧ Rep K F v d := by
  cases h with | cons a b => cases b; exact ⟨_, rfl, a⟩
theorem Reps.two {K : PySem.W.Frag} {vs : List V} {d e : D} (h : Reps K F vs [d, e]) : ∃ v w, vs = [v, w] ∧ Rep K F v d ∧ Rep K F w e := by
  cases h with | cons a b => cases b with | cons b c => cases c; exact ⟨_, _, rfl, a, b⟩
def RLen : RDA := fun ds M Q => (∃ d xs, ds = [d] ∧ LV M d xs ∧ Q (.int xs.length) M) ∨ (∃ xs, ds = [.tup xs] ∧ Q (.int xs.length) M) ∨ (∃ z, ds = [.str z] ∧ z.length ≤ sizeLine ∧ Q (.int z.length) M)
theorem lift_len : LiftA X (fun xs H Q => ∃ x n, xs = [x] ∧ LenV X.K x H n ∧ Q (.int n) H) RLen := fun k s S r h => by
  rcases h with ⟨d, xs, rfl, hl, q⟩ | ⟨xs, rfl, q⟩ | ⟨z, rfl, hl, q⟩
  · obtain ⟨v, rfl, r1⟩ := r.one
    obtain ⟨a, vs, rfl, e1, e2⟩ := S.readL r1 hl
    exact ⟨_, vs.length, rfl, .inl ⟨vs, e1, rfl⟩, k _ _ (ret S s (by rw [e2.length]; exact .int _) q)⟩
  · obtain ⟨v, rfl, r1⟩ := r.one
    obtain ⟨a, vs, rfl, e1, e2⟩ := S.readT r1
    exact ⟨_, vs.length, rfl, .inr ⟨vs, e1, rfl⟩, k _ _ (ret S s (by rw [e2.length]; exact .int _) q)⟩
  · obtain ⟨v, rfl, r1⟩ := r.one
    cases r1
    exact ⟨_, z.length, rfl, ⟨hl, rfl⟩, k _ _ (ret S s (.int _) q)⟩
theorem we_len {Q : D → Cells → Prop} (hg : Gl X "len") (hm : X.mg "len" = none) (h : WA X P [e] δ M fun ds M1 => RLen ds M1 Q) (he : starEach [e] X.env = (false, eval e X.env) :: starEach [] X.env := by rfl) (hpl : (backTo pos (starEach [] X.env)).any (·.1) = false := by rfl) : WE X P (.Call (.Name "len" p) [e] [] pos) δ M Q :=
  we_callB call_len lift_len hg hm (by decide +kernel) h (by decide) (by decide) he hpl
theorem we_abs {Q : D → Cells → Prop} (hg : Gl X "abs") (hm : X.mg "abs" = none) (h : WA X P [e] δ M fun ds M1 => ∃ i, ds = [.int i] ∧ Q (.int (if i < 0 then -i else i)) M1) (he : starEach [e] X.env = (false, eval e X.env) :: starEach [] X.env := by rfl) (hpl : (backTo pos (starEach [] X.env)).any (·.1) = false := by rfl) : WE X P (.Call (.Name "abs" p) [e] [] pos) δ M Q :=
  we_callB (R := fun ds M1 Q => ∃ i, ds = [.int i] ∧ Q (.int (if i < 0 then -i else i)) M1) call_abs (fun k s S r h => by
    obtain ⟨i, rfl, q⟩ := h
    obtain ⟨v, rfl, r1⟩ := r.one
    cases r1
    exact ⟨i, rfl, k _ _ (ret S s (.int _) q)⟩) hg hm (by decide +kernel) h (by decide) (by decide) he hpl
theorem we_max2 {Q : D → Cells → Prop} (hc : X.calm = true) (hg : Gl X "max") (hm : X.mg "max" = none) (h : WA X P [a, b] δ M fun ds M1 => ∃ i j, ds = [.int i, .int j] ∧ Q (.int (if j > i then j else i)) M1) (he : starEach [a, b] X.env = (false, eval a X.env) :: starEach [b] X.env := by rfl) (hpl : (backTo pos (starEach [b] X.env)).any (·.1) = false := by rfl) : WE X P (.Call (.Name "max" p) [a, b] [] pos) δ M Q :=
  we_callB (R := fun ds M1 Q => ∃ i j, ds = [.int i, .int j] ∧ Q (.int (if j > i then j else i)) M1) (call_max2 hc) (fun k s S r h => by
    obtain ⟨i, j, rfl, q⟩ := h
    obtain ⟨v, w, rfl, r1, r2⟩ := r.two
    cases r1; cases r2
    exact ⟨i, j, rfl, k _ _ (ret S s (.int _) q)⟩) hg hm (by decide +kernel) h (by decide) (by decide) he hpl
theorem we_min2 {Q : D → Cells → Prop} (hc : X.calm = true) (hg : Gl X "min") (hm : X.mg "min" = none) (h : WA X P [a, b] δ M fun ds M1 => ∃ i j, ds = [.int i, .int j] ∧ Q (.int (if j < i then j else i)) M1) (he : starEach [a, b] X.env = (false, eval a X.env) :: starEach [b] X.env := by rfl) (hpl : (backTo pos (starEach [b] X.env)).any (·.1) = false := by rfl) : WE X P (.Call (.Name "min" p) [a, b] [] pos) δ M Q :=
  we_callB (R := fun ds M1 Q => ∃ i j, ds = [.int i, .int j] ∧ Q (.int (if j < i then j else i)) M1) (call_min2 hc) (fun k s S r h => by
    obtain ⟨i, j, rfl, q⟩ := h
    obtain ⟨v, w, rfl, r1, r2⟩ := r.two
    cases r1; cases r2
    exact ⟨i, j, rfl, k _ _ (ret S s (.int _) q)⟩) hg hm (by decide +kernel) h (by decide) (by decide) he hpl
theorem we_all {Q : D → Cells → Prop} (hc : X.calm = true) (hg : Gl X "all") (hm : X.mg "all" = none) (h : WA X P [a] δ M fun ds M1 => ∃ (d : D) (bs : List Bool), ds = [d] ∧ LV M1 d (bs.map D.bl) ∧ Q (.bl (bs.all id)) M1) (he : starEach [a] X.env = (false, eval a X.env) :: starEach [] X.env := by rfl) (hpl : (backTo pos (starEach [] X.env)).any (·.1) = false := by rfl) : WE X P (.Call (.Name "all" p) [a] [] pos) δ M Q :=
  we_callB (R := fun ds M1 Q => ∃ (d : D) (bs : List Bool), ds = [d] ∧ LV M1 d (bs.map D.bl) ∧ Q (.bl (bs.all id)) M1) (cr_all hc) (fun k s S r h => by
    obtain ⟨d, bs, rfl, hl, q⟩ := h
    obtain ⟨v, rfl, r1⟩ := r.one
    obtain ⟨a, vs, rfl, e1, e2⟩ := S.readL r1 hl
    rw [e2.bls_inv] at e1
    exact ⟨a, bs, rfl, e1, k _ _ (ret S s (.bl _) q)⟩) hg hm (by decide +kernel) h (by decide) (by decide) he hpl
theorem we_sum {Q : D → Cells → Prop} (hc : X.calm = true) (hg : Gl X "sum") (hm : X.mg "sum" = none) (h : WA X P [a] δ M fun ds M1 => ∃ (d : D) (ns : List Int), ds = [d] ∧ LV M1 d (ns.map D.int) ∧ Q (.int ns.sum) M1) (he : starEach [a] X.env = (false, eval a X.env) :: starEach [] X.env := by rfl) (hpl : (backTo pos (starEach [] X.env)).any (·.1) = false := by rfl) : WE X P (.Call (.Name "sum" p) [a] [] pos) δ M Q :=
  we_callB (R := fun ds M1 Q => ∃ (d : D) (ns : List Int), ds = [d] ∧ LV M1 d (ns.map D.int) ∧ Q (.int ns.sum) M1) (cr_sum hc) (fun k s S r h => by
    obtain ⟨d, bs, rfl, hl, q⟩ := h
    obtain ⟨v, rfl, r1⟩ := r.one
    obtain ⟨a, vs, rfl, e1, e2⟩ := S.readL r1 hl
    rw [e2.ints_inv] at e1
    exact ⟨a, bs, rfl, e1, k _ _ (ret S s (.int _) q)⟩) hg hm (by decide +kernel) h (by decide) (by decide) he hpl
theorem Stt.readLT {K : PySem.W.Frag} (S : Stt K F M δ σ H) {v : V} {d : D} {xs : List D} (r : Rep K F v d) (h : LV M d xs ∨ d = .tup xs) : ∃ a vs, v = .ref a ∧ (SqL K H a vs ∨ SqT K H a vs) ∧ Reps K F vs xs := by
  rcases h with hl | rfl
  · obtain ⟨a, vs, rfl, e1, e2⟩ := S.readL r hl; exact ⟨a, vs, rfl, .inl e1, e2⟩
  · obtain ⟨a, vs, rfl, e1, e2⟩ := S.readT r; exact ⟨a, vs, rfl, .inr e1, e2⟩
/-- list(xs), frozen -/
theorem we_list {Q : D → Cells → Prop} (hg : Gl X "list") (hm : X.mg "list" = none) (h : WA X P [a] δ M fun ds M1 => ∃ d xs, ds = [d] ∧ (LV M1 d xs ∨ d = .tup xs) ∧ Q (.lst xs) M1) (he : starEach [a] X.env = (false, eval a X.env) :: starEach [] X.env := by rfl) (hpl : (backTo pos (starEach [] X.env)).any (·.1) = false := by rfl) : WE X P (.Call (.Name "list" p) [a] [] pos) δ M Q :=
  we_callTy (R := fun ds M1 Q => ∃ d xs, ds = [d] ∧ (LV M1 d xs ∨ d = .tup xs) ∧ Q (.lst xs) M1) call_list_of (fun k s S r h => by
    obtain ⟨d, xs, rfl, hl, q⟩ := h
    obtain ⟨v, rfl, r1⟩ := r.one
    obtain ⟨a, vs, rfl, e1, e2⟩ := S.readLT r1 hl
    refine ⟨a, vs, rfl, e1, fun l hl => k _ _ ?_⟩
    obtain ⟨S', s'⟩ := S.froz (o := .lst vs) hl
    exact ret S' (s.trans s') (.lst (.of upd_same) (e2.up s')) q) hg hm (by decide +kernel) h (by decide) (by decide) he hpl
theorem we_listC {Q : D → Cells → Prop} (hg : Gl X "list") (hm : X.mg "list" = none) (h : WA X P [a] δ M fun ds M1 => ∃ d xs, ds = [d] ∧ (LV M1 d xs ∨ d = .tup xs) ∧ ∀ p, Q (.cel p) ((p, .lst xs) :: M1)) (he : starEach [a] X.env = (false, eval a X.env) :: starEach [] X.env := by rfl) (hpl : (backTo pos (starEach [] X.env)).any (·.1) = false := by rfl) : WE X P (.Call (.Name "list" p) [a] [] pos) δ M Q :=
  we_callTy (R := fun ds M1 Q => ∃ d xs, ds = [d] ∧ (LV M1 d xs ∨ d = .tup xs) ∧ ∀ p, Q (.cel p) ((p, .lst xs) :: M1)) call_list_of (fun k s S r h => by
    obtain ⟨d, xs, rfl, hl, q⟩ := h
    obtain ⟨v, rfl, r1⟩ := r.one
    obtain ⟨a, vs, rfl, e1, e2⟩ := S.readLT r1 hl
    exact ⟨a, vs, rfl, e1, fun l hl => k _ _ (ret (S.newL hl e2) s (.cel l) (q l))⟩) hg hm (by decide +kernel) h (by decide) (by decide) he hpl
def isT (t n : String) : Bool := t == n || (t == "bool" && n == "int")
def TyA (M : Cells) (d : D) (t : String) : Prop := match d with
  | .non => t = "NoneType" | .bl _ => t = "bool" | .int _ => t = "int" | .str _ => t = "str" | .tup _ => t = "tuple" | .lst _ => t = "list" | .cel a => t = "list" ∧ ∃ (k : Nat) (ds : List D), M[k]? = some (a, .lst ds) | .raw _ => False | .exc _ _ _ => False
theorem kitT {K : PySem.W.Frag} {t n : String} (ht : t ∈ ["NoneType", "bool", "int", "str", "tuple", "list"]) (hn : n ∈ ["bool", "int", "str", "tuple", "list", "dict"]) : PySem.W.kitOne K (.type t) (.type n) = some (isT t n) := by
  simp only [List.mem_cons, List.not_mem_nil, or_false] at ht hn
  rcases ht with rfl | rfl | rfl | rfl | rfl | rfl <;> rcases hn with rfl | rfl | rfl | rfl | rfl | rfl <;> exact kit_ty (by decide +kernel)
theorem Stt.ty {K : PySem.W.Frag} (S : Stt K F M δ σ H) {v : V} {d : D} {t : String} (r : Rep K F v d) (h : TyA M d t) : TyX K H v (.type t) ∧ t ∈ ["NoneType", "bool", "int", "str", "tuple", "list"] := by
  cases d with
  | non => cases r; cases (show t = _ from h); exact ⟨.base .non, by simp⟩
  | bl b => cases r; cases (show t = _ from h); exact ⟨.base (.bl b), by simp⟩
  | int i => cases r; cases (show t = _ from h); exact ⟨.base (.int i), by simp⟩
  | str x => cases r; cases (show t = _ from h); exact ⟨.base (.str x), by simp⟩
  | tup ds =>
    cases (show t = _ from h)
    obtain ⟨a, vs, rfl, e1, e2⟩ := S.readT r
    refine ⟨?_, by simp⟩
    rcases e1 with (e1 | ⟨o, e1⟩) | ⟨o, its, n, e1, e3, _⟩
    · exact .base (.tup e1)
    · exact .fTuple e1
    · exact .kTuple e1 e3
  | lst ds =>
    cases (show t = _ from h)
    obtain ⟨a, vs, rfl, e1, e2⟩ := S.readL r LV.l
    refine ⟨?_, by simp⟩
    rcases e1 with (e1 | ⟨o, e1⟩) | ⟨o, its, n, e1, e3, _⟩
    · exact .base (.lst e1)
    · exact .base (.frz e1)
    · exact .kList e1 e3
  | cel a =>
    obtain ⟨rfl, k, ds, hk⟩ := (show t = "list" ∧ ∃ (k : Nat) (ds : List D), M[k]? = some (a, .lst ds) from h)
    obtain ⟨a, vs, rfl, e1, e2⟩ := S.readL r (LV.c k hk)
    refine ⟨?_, by simp⟩
    rcases e1 with (e1 | ⟨o, e1⟩) | ⟨o, its, n, e1, e3, _⟩
    · exact .base (.lst e1)
    · exact .base (.frz e1)
    · exact .kList e1 e3
  | raw v => exact (show False from h).elim
  | exc _ _ _ => exact (show False from h).elim
def rIsiTQ (K : PySem.W.Frag) : List V → Hp → VK → Prop := fun xs H Q => ∃ (x : V) (tp : Addr) (cs : List V) (t : Value) (us : List Value) (b : Bool), xs = [x, .ref tp] ∧ SqT K H tp cs ∧ Paired ClsV cs us ∧ TyX K H x t ∧ PySem.W.kitAny K t us = some b ∧ Q (.bl b) H
theorem call_isiTQ : CallR X (.builtin "isinstance") (rIsiTQ X.K) := by
  intro pins s σ H xs us Q I r h
  obtain ⟨x, tp, cs, t, ws, b, rfl, hT, k, ty, e, q⟩ := h
  obtain ⟨u1, u2, rfl, r1, r2⟩ := vals2 r
  cases (show u2 = Value.ref tp from r2)
  obtain ⟨P, Z, p, hx⟩ := kit_of I r1 ty
  obtain ⟨its, rv, ⟨o, h1, h2, n, h3⟩, _⟩ := I.tuple hT
  have e3 := ClsV.all k rv
  subst e3
  obtain ⟨oc, od, dt, sl⟩ := o
  simp only at h2 h3
  subst h2 h3
  exact PySem.W.kia_tup Z I.kIn p h1 e hx fun tk => ⟨.bl b, H, I.tok tk, rfl, q⟩
def RIsi : RDA := fun ds M Q => ∃ d t n, ds = [d, .raw (.ty n)] ∧ TyA M d t ∧ n ∈ ["bool", "int", "str", "tuple", "list", "dict"] ∧ Q (.bl (isT t n)) M
theorem lift_isi : LiftA X (rIsi X.K) RIsi := fun k s S r h => by
  obtain ⟨d, t, n, rfl, ht, hn, q⟩ := h
  obtain ⟨v, w, rfl, r1, r2⟩ := r.two
  cases r2
  obtain ⟨ty, hm⟩ := S.ty r1 ht
  exact ⟨v, .ty n, .type t, .type n, isT t n, rfl, .ty n, ty, kitT hm hn, k _ _ (ret S s (.bl _) q)⟩
def RIsiT : RDA := fun ds M Q => ∃ d t n m, ds = [d, .tup [.raw (.ty n), .raw (.ty m)]] ∧ TyA M d t ∧ n ∈ ["bool", "int", "str", "tuple", "list", "dict"] ∧ m ∈ ["bool", "int", "str", "tuple", "list", "dict"] ∧ Q (.bl (isT t n || isT t m)) M
theorem lift_isiT : LiftA X (rIsiTQ X.K) RIsiT := fun k s S r h => by
  obtain ⟨d, t, n, m, rfl, ht, hn, hm, q⟩ := h
  obtain ⟨v, w, rfl, r1, r2⟩ := r.two
  obtain ⟨a, vs, rfl, e1, e2⟩ := S.readT r2
  obtain ⟨y, z, rfl, q1, q2⟩ := e2.two
  cases q1; cases q2
  obtain ⟨ty, hmm⟩ := S.ty r1 ht
  refine ⟨v, a, [.ty n, .ty m], .type t, [.type n, .type m], isT t n || isT t m, rfl, e1, .cons (.ty n) (.cons (.ty m) .nil), ty, ?_, k _ _ (ret S s (.bl _) q)⟩
  refine kitAny_cons (kitT hmm hn) (fun e => ?_) (fun e => by rw [e]; rfl)
  rw [e, Bool.false_or]
  exact kitAny_cons (kitT hmm hm) (fun e => by rw [e]; exact kitAny_nil) (fun e => e)
theorem we_isi {Q : D → Cells → Prop} (hg : Gl X "isinstance") (hm : X.mg "isinstance" = none) (h : WA X P [a, b] δ M fun ds M1 => RIsi ds M1 Q ∨ RIsiT ds M1 Q) (he : starEach [a, b] X.env = (false, eval a X.env) :: starEach [b] X.env := by rfl) (hpl : (backTo pos (starEach [b] X.env)).any (·.1) = false := by rfl) : WE X P (.Call (.Name "isinstance" p) [a, b] [] pos) δ M Q :=
  we_callB (call_isi.or call_isiTQ) (lift_isi.or lift_isiT) hg hm (by decide +kernel) h (by decide) (by decide) he hpl
end
end PW
/-! PW4 -/
namespace PW
open PySem L2 PyProof.Rows

structure Nice (X : Cx) : Prop where
  calm : X.calm = true
  nd : X.N.Nodup
  own : PassesOwn (model X.prog X.w) X.A X.env X.xe

structure En where
  nx : Slots → Cells → Prop
  rt : D → Cells → Prop
  bk : Slots → Cells → Prop := fun _ _ => False
  ct : Slots → Cells → Prop := fun _ _ => False
def upN (K : PySem.W.Frag) (F : Hp) (Q : Slots → Cells → Prop) : L2.St → Hp → Prop := fun σ' H' => ∃ F' M' δ', Same F F' ∧ Stt K F' M' δ' σ' H' ∧ Q δ' M'
def upR (K : PySem.W.Frag) (F : Hp) (Q : D → Cells → Prop) : VK := fun v H' => ∃ F' M' δ' σ' d, Same F F' ∧ Stt K F' M' δ' σ' H' ∧ Rep K F' v d ∧ Q d M'
def upEn (K : PySem.W.Frag) (F : Hp) (E : En) : L2.Ends := ⟨upN K F E.nx, upR K F E.rt, upN K F E.bk, upN K F E.ct⟩
theorem upN.base {K : PySem.W.Frag} {F F' : Hp} (s : Same F F') {Q : Slots → Cells → Prop} {σ : L2.St} {H : Hp} (h : upN K F' Q σ H) : upN K F Q σ H := let ⟨F2, M2, d2, s2, r⟩ := h; ⟨F2, M2, d2, s.trans s2, r⟩
theorem upR.base {K : PySem.W.Frag} {F F' : Hp} (s : Same F F') {Q : D → Cells → Prop} {v : V} {H : Hp} (h : upR K F' Q v H) : upR K F Q v H := let ⟨F2, M2, d2, σ2, e2, s2, r⟩ := h; ⟨F2, M2, d2, σ2, e2, s.trans s2, r⟩
def tS (X : Cx) (st : Stmt) : TS := fun D σ H => ∀ pins s, Inv X pins σ H s → wpAny (model X.prog X.w) X.A (exec st X.env) (SP X pins D) X.xe s
def tB (X : Cx) (b : List Stmt) : TS := fun D σ H => ∀ pins s, Inv X pins σ H s → wpAny (model X.prog X.w) X.A (execs b X.env) (SP X pins D) X.xe s
def tG (X : Cx) (tg : Expr) : TG := fun v σ H Q => ∀ pins s u, Inv X pins σ H s → RelV v u → wpAny (model X.prog X.w) X.A (assign tg X.env u) (fun _ s' => ∃ σ' H', Inv X pins σ' H' s' ∧ Q σ' H') X.xe s
theorem ps_sem {X : Cx} {st : Stmt} : PS X st (tS X st) := ⟨fun pins s _ _ _ I h => h pins s I⟩
theorem pss_sem {X : Cx} {st : List Stmt} : PSs X st (tB X st) := ⟨fun pins s _ _ _ I h => h pins s I⟩
theorem pg_sem {X : Cx} {tg : Expr} : PG X tg (tG X tg) := ⟨fun pins s _ _ _ u _ I r h => h pins s u I r⟩
def WS (X : Cx) (P : XP) (st : Stmt) (δ : Slots) (M : Cells) (E : En) : Prop := ∀ σ H F, Go X P F M δ σ H → tS X st (upEn X.K F E) σ H
def WB (X : Cx) (P : XP) (b : List Stmt) (δ : Slots) (M : Cells) (E : En) : Prop := ∀ σ H F, Go X P F M δ σ H → tB X b (upEn X.K F E) σ H
def WG (X : Cx) (P : XP) (tg : Expr) (d : D) (δ : Slots) (M : Cells) (Q : Slots → Cells → Prop) : Prop := ∀ σ H F v, Go X P F M δ σ H → Rep X.K F v d → tG X tg v σ H (upN X.K F Q)
structure EnLe (D D' : L2.Ends) : Prop where
  nx : ∀ σ H, D.nx σ H → D'.nx σ H
  rt : ∀ v H, D.rt v H → D'.rt v H
  bk : ∀ σ H, D.bk σ H → D'.bk σ H
  ct : ∀ σ H, D.ct σ H → D'.ct σ H
theorem SP.mono {X : Cx} {pins : List (Addr × Obj)} {D D' : L2.Ends} (l : EnLe D D') {f : Flow} {s : Shared} (h : SP X pins D f s) : SP X pins D' f s := by
  cases f with
  | next => obtain ⟨σ', H', I, q⟩ := h; exact ⟨σ', H', I, l.nx _ _ q⟩
  | brk => obtain ⟨σ', H', I, q⟩ := h; exact ⟨σ', H', I, l.bk _ _ q⟩
  | cont => obtain ⟨σ', H', I, q⟩ := h; exact ⟨σ', H', I, l.ct _ _ q⟩
  | ret u => obtain ⟨v, σ', H', I, r, q⟩ := h; exact ⟨v, σ', H', I, r, l.rt _ _ q⟩
section
variable {X : Cx} {P : XP} {F : Hp} {M : Cells} {δ : Slots} {σ : L2.St} {H : Hp} {e a b c o : Expr} {es : List Expr} {pos apos p p2 : Pos} {st : Stmt} {rest body orelse : List Stmt} {E : En}
theorem tS.mono {D D' : L2.Ends} (h : tS X st D σ H) (l : EnLe D D') : tS X st D' σ H := fun pins s I => thn (h pins s I) fun _ _ q => SP.mono l q
theorem tB.mono {D D' : L2.Ends} (h : tB X body D σ H) (l : EnLe D D') : tB X body D' σ H := fun pins s I => thn (h pins s I) fun _ _ q => SP.mono l q
theorem tG.mono {tg : Expr} {v : V} {Q Q' : L2.St → Hp → Prop} (h : tG X tg v σ H Q) (k : ∀ σ H, Q σ H → Q' σ H) : tG X tg v σ H Q' := fun pins s u I r => thn (h pins s u I r) fun _ _ ⟨σ', H', I', q⟩ => ⟨σ', H', I', k _ _ q⟩
theorem enle_base {K : PySem.W.Frag} {F F' : Hp} (s : Same F F') (E : En) : EnLe (upEn K F' E) (upEn K F E) := ⟨fun _ _ h => upN.base s h, fun _ _ h => upR.base s h, fun _ _ h => upN.base s h, fun _ _ h => upN.base s h⟩
/-- go on behind a change of the frozen base -/
theorem WB.go {F' : Hp} {M' : Cells} {δ' : Slots} {σ' : L2.St} {H' : Hp} (h : WB X P body δ' M' E) (G : Go X P F' M' δ' σ' H') (s : Same F F') : tB X body (upEn X.K F E) σ' H' := (h σ' H' F' G).mono (enle_base s E)
theorem ws_of {t : TS} (p : PS X st t) (h : ∀ σ H F, Go X P F M δ σ H → t (upEn X.K F E) σ H) : WS X P st δ M E := fun σ H F G pins s I => p.run pins s σ H _ I (h σ H F G)
theorem nx_ {Q : Slots → Cells → Prop} {F0 : Hp} {K : PySem.W.Frag} (S : Stt K F M δ σ H) (s : Same F0 F) (q : Q δ M) : upN K F0 Q σ H := ⟨F, M, δ, s, S, q⟩

theorem wb_nil (h : E.nx δ M) : WB X P [] δ M E := fun σ H F G pins s I => pss_nil.run pins s σ H (upEn X.K F E) I (nx_ G.st (Same.refl _) h)
theorem wb_cons (h : WS X P st δ M { E with nx := fun δ' M' => WB X P rest δ' M' E }) : WB X P (st :: rest) δ M E := fun σ H F G pins s I =>
  (pss_cons ps_sem pss_sem).run pins s σ H (upEn X.K F E) I ((h σ H F G).mono ⟨fun σ' H' ⟨F', M', δ', s', S', q⟩ => q.go ⟨S', G.tk.up s'⟩ s', fun _ _ h => h, fun _ _ h => h, fun _ _ h => h⟩)
theorem wb_one (h : WS X P st δ M E) : WB X P [st] δ M E := fun σ H F G pins s I => (pss_one ps_sem).run pins s σ H (upEn X.K F E) I (h σ H F G)
theorem ws_expr (h : WE X P e δ M fun _ M' => E.nx δ M') (hs : swapsWith e none pos.line X.env = pure false := by rfl) : WS X P (.Expr e pos) δ M E := ws_of (ps_expr pe_sem hs) fun σ H F G => h.go G fun v H' F' M' d s G' r q => nx_ G'.st s q
theorem ws_ret (h : WE X P e δ M E.rt) : WS X P (.Return (some e) pos) δ M E := ws_of (ps_ret pe_sem) fun σ H F G => h.go G fun v H' F' M' d s G' r q => ⟨F', M', δ, σ, d, s, G'.st, r, q⟩
theorem ws_if (h : WT X P c δ M fun k M' => if k = true then WB X P body δ M' E else WB X P orelse δ M' E) : WS X P (.If c body orelse pos) δ M E :=
  ws_of (ps_if pt_sem pss_sem pss_sem) fun σ H F G => h.go G fun k H' F' M' s G' q => by
    cases k with
    | true => rw [if_pos rfl] at q ⊢; exact q.go G' s
    | false => rw [if_neg (by decide)] at q ⊢; exact q.go G' s
theorem ws_set {i : Nat} {x : Str} {pos' : Pos} (N : Nice X) (hi : X.N[i]? = some x) (hx : Loc X.env.scope x) (h : WE X P e δ M fun d M' => E.nx (δ.set i (some d)) M') (hs : swapsWith e (some (.Name x pos')) pos.line X.env = pure false := by rfl) (hf : X.fn x = true ∨ X.env.scope.names.lookup x = some .local := by first | exact .inl rfl | exact .inr rfl | assumption) : WS X P (.Assign [.Name x pos'] e pos) δ M E :=
  ws_of (ps_set N.nd hi hx pe_sem hs hf) fun σ H F G => h.go G fun v H' F' M' d s G' r q => nx_ (G'.st.setSlot r) s q
theorem wg_of {tg : Expr} {t : TG} {d : D} {Q : Slots → Cells → Prop} (p : PG X tg t) (h : ∀ σ H F v, Go X P F M δ σ H → Rep X.K F v d → t v σ H (upN X.K F Q)) : WG X P tg d δ M Q := fun σ H F v G r pins s u I ru => p.run pins s σ H v u _ I ru (h σ H F v G r)
theorem wg_name {i : Nat} {x : Str} {d : D} {Q : Slots → Cells → Prop} (N : Nice X) (hi : X.N[i]? = some x) (hx : Loc X.env.scope x) (h : Q (δ.set i (some d)) M) (hf : X.fn x = true ∨ X.env.scope.names.lookup x = some .local := by first | exact .inl rfl | exact .inr rfl | assumption) : WG X P (.Name x pos) d δ M Q :=
  wg_of (pg_name N.nd hi hx hf) fun σ H F v G r => nx_ (G.st.setSlot r) (Same.refl _) h
/-- targets one after another -/
def tGs (X : Cx) (ts : List Expr) : TGs := fun vs σ H Q => ∀ pins s us, Inv X pins σ H s → Vals vs us → wpAny (model X.prog X.w) X.A (assignInOrder ((assignEach ts X.env).map (·.2)) us) (fun _ s' => ∃ σ' H', Inv X pins σ' H' s' ∧ Q σ' H') X.xe s
theorem pgs_sem {ts : List Expr} : PGs X ts (tGs X ts) := ⟨fun pins s _ _ _ us _ I r h => h pins s us I r⟩
def WGs (X : Cx) (P : XP) (ts : List Expr) (ds : List D) (δ : Slots) (M : Cells) (Q : Slots → Cells → Prop) : Prop := ∀ σ H F vs, Go X P F M δ σ H → Reps X.K F vs ds → tGs X ts vs σ H (upN X.K F Q)
theorem wgs_nil {Q : Slots → Cells → Prop} (h : Q δ M) : WGs X P [] [] δ M Q := fun σ H F vs G r pins s us I ru => pgs_nil.run pins s σ H vs us _ I ru ⟨by cases r; rfl, nx_ G.st (Same.refl _) h⟩
theorem wgs_cons {t : Expr} {ts : List Expr} {d : D} {ds : List D} {Q : Slots → Cells → Prop} (h : WG X P t d δ M fun δ' M' => WGs X P ts ds δ' M' Q) (hs : (assignEach (t :: ts) X.env).map (·.2) = assign t X.env :: (assignEach ts X.env).map (·.2) := by rfl) : WGs X P (t :: ts) (d :: ds) δ M Q := fun σ H F vs G r pins s us I ru => by
  cases r with
  | cons r1 r2 =>
    refine (pgs_cons pg_sem pgs_sem hs).run pins s σ H _ us _ I ru ⟨_, _, rfl, (h σ H F _ G r1).mono fun σ' H' ⟨F', M', δ', s', S', q⟩ => ?_⟩
    exact fun pins s us I ru => thn (q σ' H' F' _ ⟨S', G.tk.up s'⟩ (r2.up s') pins s us I ru) fun _ _ ⟨σ2, H2, I2, q2⟩ => ⟨σ2, H2, I2, upN.base s' q2⟩
theorem wg_tup {ts : List Expr} {k : Nat} {d : D} {ds : List D} {Q : Slots → Cells → Prop} (N : Nice X) (hd : d = .tup ds) (h : WGs X P ts ds δ M Q) (hl : ds.length = (assignEach ts X.env).length := by rfl) (hst : (assignEach ts X.env).findIdx? (·.1) = none := by rfl) : WG X P (.Tuple ts k pos) d δ M Q := by
  subst hd
  refine wg_of (pg_tup N.calm pgs_sem (n := ds.length) hl.symm hst) fun σ H F v G r => ?_
  obtain ⟨a, vs, rfl, e1, e2⟩ := G.st.readT r
  exact ⟨a, vs, rfl, e1, e2.length, h σ H F vs G e2⟩
theorem wg_sub {d : D} {Q : Slots → Cells → Prop} (h : WE X P o δ M fun x M1 => WE X P a δ M1 fun y M2 => ∃ k q ds z j, x = .cel q ∧ M2[k]? = some (q, .lst ds) ∧ y = .int z ∧ ixN ds.length z = some j ∧ Q δ (M2.set k (q, .lst (ds.set j d))))
    (ha : ∀ v, assign (.Subscript o a pos) X.env v = (do
      let ov ← holding [v] (eval o X.env)
      let iv ← holding [v, ov] (eval a X.env)
      standAt pos
      holding [v, ov, iv] (setItem ov iv v)
      release [v, ov, iv] []) := by intro _; rfl) : WG X P (.Subscript o a pos) d δ M Q :=
  wg_of (pg_sub pe_sem pe_sem set_list ha) fun σ H F v G r => h.go G fun ov H1 F1 M1 x s1 G1 r1 q1 => q1.go G1 fun iv H2 F2 M2 y s2 G2 r2 q2 => by
    obtain ⟨k, q, ds, z, j, rfl, hk, rfl, hj, hq⟩ := q2
    cases r1; cases r2
    obtain ⟨vs, e1, e2, e3⟩ := G2.st.cellAt (List.mem_of_getElem? hk)
    refine ⟨q, vs, z, j, rfl, rfl, e1, by rw [e3.length]; exact hj, ?_⟩
    exact nx_ (G2.st.setCell (c' := .lst (ds.set j d)) hk ⟨vs.set j v, upd_same, e3.set j (r.up (s1.trans s2))⟩) (s1.trans s2) hq
theorem ws_asg {tg : Expr} (h : WE X P e δ M fun d M' => WG X P tg d δ M' E.nx) (hs : swapsWithSole [tg] e pos.line X.env = pure false := by rfl) (hw : swappedStores [tg] e X.env = pure none := by rfl)
    (h1 : (assignEach [tg] X.env).map (·.2) = [assign tg X.env] := by rfl) : WS X P (.Assign [tg] e pos) δ M E :=
  ws_of (ps_asg pe_sem pg_sem hs hw h1) fun σ H F G => h.go G fun v H' F' M' d s G' r q => (q σ H' F' v G' r).mono fun _ _ z => upN.base s z
/-- a, b = x, y of plain local names -/
theorem ws_par {i j : Nat} {x y : Str} {px py pt : Pos} {kt k2 pt2} (N : Nice X) (hi : X.N[i]? = some x) (hj : X.N[j]? = some y) (hij : i ≠ j) (hx : X.env.scope.names.lookup x = some .local) (hy : X.env.scope.names.lookup y = some .local)
    (hw : swappedStores [.Tuple [.Name x px, .Name y py] kt pt] (.Tuple [a, b] k2 pt2) X.env = pure (some [x, y])) (h : WA X P [a, b] δ M fun ds M' => ∃ d1 d2, ds = [d1, d2] ∧ E.nx ((δ.set i (some d1)).set j (some d2)) M')
    (hs : swapsWithSole [.Tuple [.Name x px, .Name y py] kt pt] (.Tuple [a, b] k2 pt2) pos.line X.env = pure false := by rfl) : WS X P (.Assign [.Tuple [.Name x px, .Name y py] kt pt] (.Tuple [a, b] k2 pt2) pos) δ M E :=
  ws_of (ps_par N.calm N.nd hi hj hij hx hy pa_sem hw hs) fun σ H F G => h.go G fun vs H' F' M' ds s G' r q => by
    obtain ⟨d1, d2, rfl, q⟩ := q
    obtain ⟨v, w, rfl, r1, r2⟩ := r.two
    exact ⟨v, w, rfl, nx_ ((G'.st.setSlot r1).setSlot r2) s q⟩
theorem ws_aug {i : Nat} {x : Str} {op : Operator} {ti : TIp} {R : RD2} {pos' : Pos} {d : D} (N : Nice X) (hi : X.N[i]? = some x) (hx : Loc X.env.scope x) (ho : PIp X op ti) (L : Lift2 X ti R) (hd : δ[i]? = some (some d)) (h : WE X P e δ M fun y M1 => R d y M1 fun z M2 => E.nx (δ.set i (some z)) M2)
    (hf : X.fn x = true ∨ X.env.scope.names.lookup x = some .local := by first | exact .inl rfl | exact .inr rfl | assumption) : WS X P (.AugAssign (.Name x pos') op e pos) δ M E :=
  ws_of (ps_aug N.nd hi hx pe_sem ho hf) fun σ H F G => by
    obtain ⟨v, e1, r⟩ := G.st.slot i d hd
    refine ⟨v, e1, h.go G fun u H1 F1 M1 y s1 G1 r1 q1 => L (Q := fun z M2 => E.nx (δ.set i (some z)) M2) (fun z H2 hz => ?_) s1 G1.st (r.up s1) r1 q1⟩
    obtain ⟨F2, M2, z', s2, S2, r2, q2⟩ := hz
    exact nx_ (S2.setSlot r2) s2 q2
theorem ws_augI {i : Nat} {x : Str} {op : Operator} {C : Int → Int → Prop} {g : Int → Int → Int} {pos' : Pos} {n : Int} (N : Nice X) (hi : X.N[i]? = some x) (hx : Loc X.env.scope x) (ho : OpR X (inplaceOp op) (rI C fun i j => .int (g i j))) (hd : δ[i]? = some (some (.int n))) (h : WE X P e δ M fun y M1 => ∃ j, y = .int j ∧ C n j ∧ E.nx (δ.set i (some (.int (g n j)))) M1)
    (hf : X.fn x = true ∨ X.env.scope.names.lookup x = some .local := by first | exact .inl rfl | exact .inr rfl | assumption) : WS X P (.AugAssign (.Name x pos') op e pos) δ M E :=
  ws_aug N hi hx ho lift_I hd (h.imp fun y M1 ⟨j, e, hc, q⟩ => ⟨n, j, rfl, e, hc, q⟩) hf
theorem iop_addQ : OpR X (inplaceOp .Add) (rI (fun _ _ => True) fun i j => .int (i + j)) := opI fun _ _ _ _ _ _ _ _ q => iadd_int q
theorem iop_subQ : OpR X (inplaceOp .Sub) (rI (fun _ _ => True) fun i j => .int (i - j)) := opI fun _ _ _ _ _ _ _ _ q => isub_int q
theorem ws_while (N : Nice X) (I : Nat → Slots → Cells → Prop) (h0 : ∃ n, I n δ M)
    (hs : ∀ n δ' M', I n δ' M' → WT X P c δ' M' fun k M1 => if k = true then WB X P body δ' M1 { E with nx := fun δ2 M2 => ∃ m, m < n ∧ I m δ2 M2, ct := fun δ2 M2 => ∃ m, m < n ∧ I m δ2 M2, bk := E.nx } else E.nx δ' M1) : WS X P (.While c body [] pos) δ M E :=
  ws_of (ps_while N.own pt_sem pss_sem) fun σ H F G => by
    obtain ⟨n0, i0⟩ := h0
    refine ⟨fun n σ' H' => ∃ F' M' δ', Same F F' ∧ Go X P F' M' δ' σ' H' ∧ I n δ' M', ⟨n0, F, M, δ, Same.refl _, G, i0⟩, ?_⟩
    rintro n σ1 H1 ⟨F1, M1, δ1, s1, G1, i1⟩
    refine (hs n δ1 M1 i1).go G1 fun k H2 F2 M2 s2 G2 q2 => ?_
    cases k with
    | false => rw [if_neg (by decide)] at q2 ⊢; exact nx_ G2.st (s1.trans s2) q2
    | true =>
      rw [if_pos rfl] at q2 ⊢
      refine ⟨upN X.K F (fun δ2 M2 => ∃ m, m < n ∧ I m δ2 M2), fun σ3 H3 ⟨F3, M3, δ3, s3, S3, m, hm, i3⟩ => ⟨m, hm, F3, M3, δ3, s3, ⟨S3, G.tk.up s3⟩, i3⟩, ?_⟩
      exact q2.go G2 (s1.trans s2)
/-- what an iterator walks: the items, and while what it goes on -/
def WalkP (K : PySem.W.Frag) (J : It) (F : Hp) (ds : List D) (Sb : Cells → Prop) : Prop :=
  ∀ (F' : Hp) (M' : Cells) (δ' : Slots) (σ' : L2.St) (H' : Hp), Same F F' → Stt K F' M' δ' σ' H' → Sb M' →
    (∀ i, i < ds.length → J.go i H') ∧ J.stop ds.length H' ∧ ∀ i x H2, i < ds.length → J.yld i H' x H2 → ∃ F2 d, Same F' F2 ∧ Stt K F2 M' δ' σ' H2 ∧ ds[i]? = some d ∧ Rep K F2 x d
def tI (X : Cx) (tg e : Expr) : TI := fun σ H R => ∀ pins s, Inv X pins σ H s → wpAny (model X.prog X.w) X.A (eval e X.env) (fun v s1 => wpAny (model X.prog X.w) X.A (pyIter v) (PIE X pins σ tg R) X.xe s1) X.xe s
theorem pi_sem {tg : Expr} : PI X tg e (tI X tg e) := ⟨fun pins s _ _ _ I h => h pins s I⟩
def upI (K : PySem.W.Frag) (F : Hp) (δ : Slots) (σ : L2.St) (R : List D → (Cells → Prop) → Cells → Prop) : It → Hp → Prop := fun J H' => ∃ F' M' ds Sb, Same F F' ∧ Stt K F' M' δ σ H' ∧ WalkP K J F' ds Sb ∧ R ds Sb M'
def WI (X : Cx) (P : XP) (tg e : Expr) (δ : Slots) (M : Cells) (R : List D → (Cells → Prop) → Cells → Prop) : Prop := ∀ σ H F, Go X P F M δ σ H → tI X tg e σ H (upI X.K F δ σ R)
theorem tI.mono {tg : Expr} {R R' : It → Hp → Prop} (h : tI X tg e σ H R) (k : ∀ J H, R J H → R' J H) : tI X tg e σ H R' := fun pins s I => thn (h pins s I) fun _ _ q => thn q fun _ _ ⟨it, fp, tn, J, H', e1, I', T, t0, f, r⟩ => ⟨it, fp, tn, J, H', e1, I', T, t0, f, k _ _ r⟩
theorem wi_of {tg : Expr} {t : TI} {R : List D → (Cells → Prop) → Cells → Prop} (p : PI X tg e t) (h : ∀ σ H F, Go X P F M δ σ H → t σ H (upI X.K F δ σ R)) : WI X P tg e δ M R := fun σ H F G pins s I => p.run pins s σ H _ I (h σ H F G)
theorem ws_for {tg iter : Expr} (N : Nice X) (h : WI X P tg iter δ M fun ds Sb M1 => ∃ I : Nat → Slots → Cells → Prop, I 0 δ M1 ∧ (∀ i δ' M', i ≤ ds.length → I i δ' M' → Sb M') ∧
      (∀ i d δ' M', ds[i]? = some d → I i δ' M' → WG X P tg d δ' M' fun δ2 M2 => WB X P body δ2 M2 { E with nx := I (i + 1), ct := I (i + 1), bk := E.nx }) ∧ (∀ δ' M', I ds.length δ' M' → E.nx δ' M'))
    (hs : ∀ x, foldedSetIterable iter X.env x = pure x := by intro _; rfl) : WS X P (.For tg iter body [] pos) δ M E :=
  ws_of (ps_for N.own N.calm pi_sem pg_sem pss_sem hs) fun σ H F G => (h σ H F G).mono fun J H1 ⟨F1, M1, ds, Sb, s1, S1, wk, I, i0, iS, iT, iE⟩ => by
    refine ⟨fun i n σ' H' => n = ds.length - i ∧ i ≤ ds.length ∧ ∃ F' M' δ', Same F1 F' ∧ Stt X.K F' M' δ' σ' H' ∧ I i δ' M', ⟨ds.length, by simp, Nat.zero_le _, F1, M1, δ, Same.refl _, S1, i0⟩, ?_⟩
    rintro i n σ2 H2 ⟨rfl, hi, F2, M2, δ2, s2, S2, i2⟩
    obtain ⟨wg, ws, wy⟩ := wk F2 M2 δ2 σ2 H2 s2 S2 (iS i δ2 M2 hi i2)
    by_cases hlt : i < ds.length
    · refine .inr ⟨wg i hlt, upN X.K F1 (I (i + 1)), fun σ3 H3 ⟨F3, M3, δ3, s3, S3, i3⟩ => ⟨ds.length - (i + 1), by omega, rfl, hlt, F3, M3, δ3, s3, S3, i3⟩, fun x H3 y => ?_⟩
      obtain ⟨F3, d, s3, S3, hd, r3⟩ := wy i x H3 hlt y
      have s13 := (s2.trans s3)
      refine (iT i d δ2 M2 hd i2 σ2 H3 F3 x ⟨S3, G.tk.up (s1.trans s13)⟩ r3).mono fun σ4 H4 ⟨F4, M4, δ4, s4, S4, q4⟩ => ?_
      have s14 := s13.trans s4
      refine (q4 σ4 H4 F4 ⟨S4, G.tk.up (s1.trans s14)⟩).mono ⟨fun _ _ q => upN.base s14 q, fun _ _ q => upR.base (s1.trans s14) q, fun _ _ q => upN.base (s1.trans s14) q, fun _ _ q => upN.base s14 q⟩
    · have e : i = ds.length := by omega
      subst e
      exact .inl ⟨ws, nx_ S2 (s1.trans s2) (iE δ2 M2 i2)⟩

theorem walkP_of {K : PySem.W.Frag} {J : It} {n : Nat} {G : Hp → Prop} {Y : Nat → Hp → V → Hp → Prop} (w : L2.Walk J n G Y) {ds : List D} {Sb : Cells → Prop} (hn : ds.length = n) (hG : ∀ (F' : Hp) (M' : Cells) (δ' : Slots) (σ' : L2.St) (H' : Hp), Same F F' → Stt K F' M' δ' σ' H' → Sb M' → G H')
    (hY : ∀ (F' : Hp) (M' : Cells) (δ' : Slots) (σ' : L2.St) (H' : Hp) i x H2, i < n → Same F F' → Stt K F' M' δ' σ' H' → Y i H' x H2 → ∃ F2 d, Same F' F2 ∧ Stt K F2 M' δ' σ' H2 ∧ ds[i]? = some d ∧ Rep K F2 x d) : WalkP K J F ds Sb := by
  intro F' M' δ' σ' H' s S q
  have g := hG F' M' δ' σ' H' s S q
  subst hn
  exact ⟨fun i hi => w.goes i H' hi g, w.stops H' g, fun i x H2 hi y => hY F' M' δ' σ' H' i x H2 hi s S (w.yields i H' x H2 hi g y)⟩
theorem wi_list {tg : Expr} {R : List D → (Cells → Prop) → Cells → Prop} (h : WE X P e δ M fun d M1 => ∃ ds, LV M1 d ds ∧ R ds (fun M' => LV M' d ds) M1) : WI X P tg e δ M R :=
  wi_of (pi_list pe_sem) fun σ H F G => h.go G fun v H1 F1 M1 d s1 G1 r1 ⟨ds, hl, q⟩ => by
    obtain ⟨a, vs, rfl, e1, e2⟩ := G1.st.readL r1 hl
    refine ⟨a, rfl, ⟨vs, e1⟩, F1, M1, ds, _, s1, G1.st, ?_, q⟩
    intro F' M' δ' σ' H' s S hM
    obtain ⟨a', xs, ea, f1, f2⟩ := S.readL (r1.up s) hM
    cases ea
    have w := walk_list (K := X.K) (a := a) (xs := xs)
    refine ⟨fun i hi => w.goes i H' (by rw [f2.length]; exact hi) f1, by rw [← f2.length]; exact w.stops H' f1, fun i x H2 hi y => ?_⟩
    obtain ⟨rfl, y2⟩ := w.yields i H' x H2 (by rw [f2.length]; exact hi) f1 y
    obtain ⟨d', h1, h2⟩ := f2.get' y2
    exact ⟨F', d', Same.refl _, S, h1, h2⟩
theorem wi_tup {tg : Expr} {R : List D → (Cells → Prop) → Cells → Prop} (h : WE X P e δ M fun d M1 => ∃ ds, d = .tup ds ∧ R ds (fun _ => True) M1) : WI X P tg e δ M R :=
  wi_of (pi_tup pe_sem) fun σ H F G => h.go G fun v H1 F1 M1 d s1 G1 r1 ⟨ds, hl, q⟩ => by
    subst hl
    obtain ⟨a, vs, rfl, e1, e2⟩ := G1.st.readT r1
    refine ⟨a, rfl, ⟨vs, e1⟩, F1, M1, ds, _, s1, G1.st, ?_, q⟩
    intro F' M' δ' σ' H' s S hM
    obtain ⟨a', xs, ea, f1, f2⟩ := S.readT (r1.up s)
    cases ea
    have w := walk_tup (K := X.K) (a := a) (xs := xs)
    refine ⟨fun i hi => w.goes i H' (by rw [f2.length]; exact hi) f1, by rw [← f2.length]; exact w.stops H' f1, fun i x H2 hi y => ?_⟩
    obtain ⟨rfl, y2⟩ := w.yields i H' x H2 (by rw [f2.length]; exact hi) f1 y
    obtain ⟨d', h1, h2⟩ := f2.get' y2
    exact ⟨F', d', Same.refl _, S, h1, h2⟩
/-- lo, lo + 1, .. -/
def rangeD (lo : Int) (n : Nat) : List D := (List.range n).map fun i => D.int (lo + (i : Nat))
theorem rangeD_len (lo : Int) (n : Nat) : (rangeD lo n).length = n := by simp [rangeD]
theorem rangeD_get {lo : Int} {n i : Nat} (h : i < n) : (rangeD lo n)[i]? = some (.int (lo + (i : Nat))) := by simp [rangeD, h]
theorem rangeD_inv {lo : Int} {n i : Nat} {d : D} (h : (rangeD lo n)[i]? = some d) : i < n ∧ d = .int (lo + (i : Nat)) := by
  have hi : i < n := by have := (List.getElem?_eq_some_iff.mp h).1; rwa [rangeD_len] at this
  rw [rangeD_get hi] at h
  exact ⟨hi, (Option.some.inj h).symm⟩
theorem walkP_range {K : PySem.W.Frag} {lo : Int} {n : Nat} : WalkP K (Itr lo n) F (rangeD lo n) (fun _ => True) :=
  walkP_of walk_range (rangeD_len lo n) (fun _ _ _ _ _ _ _ _ => trivial) fun F' M' δ' σ' H' i x H2 hi s S y => by
    obtain ⟨rfl, rfl⟩ := y
    exact ⟨F', _, Same.refl _, S, rangeD_get hi, .int _⟩
theorem wi_range1 {tg : Expr} {R : List D → (Cells → Prop) → Cells → Prop} (hg : Gl X "range") (hm : X.mg "range" = none) (h : WA X P [a] δ M fun ds M1 => ∃ j : Int, ds = [.int j] ∧ -(2 ^ 62) ≤ j ∧ j < 2 ^ 62 ∧ R (rangeD 0 j.toNat) (fun _ => True) M1) (hs : starEach [a] X.env = [(false, eval a X.env)] := by rfl) : WI X P tg (.Call (.Name "range" p) [a] [] pos) δ M R :=
  wi_of (pi_range1 hg hm pa_sem hs) fun σ H F G => h.go G fun vs H1 F1 M1 ds s1 G1 r1 ⟨j, e, h1, h2, q⟩ => by
    subst e
    obtain ⟨v, rfl, r⟩ := r1.one
    cases r
    exact ⟨j, rfl, h1, h2, F1, M1, _, _, s1, G1.st, walkP_range, q⟩
theorem wi_range2 {tg : Expr} {R : List D → (Cells → Prop) → Cells → Prop} (hg : Gl X "range") (hm : X.mg "range" = none) (h : WA X P [a, b] δ M fun ds M1 => ∃ i j : Int, ds = [.int i, .int j] ∧ (-(2 ^ 62) ≤ i ∧ i < 2 ^ 62 ∧ -(2 ^ 62) ≤ j ∧ j < 2 ^ 62) ∧ R (rangeD i (j - i).toNat) (fun _ => True) M1) (hs : starEach [a, b] X.env = [(false, eval a X.env), (false, eval b X.env)] := by rfl) (hs2 : starEach [b] X.env = [(false, eval b X.env)] := by rfl) : WI X P tg (.Call (.Name "range" p) [a, b] [] pos) δ M R :=
  wi_of (pi_range2 hg hm pa_sem hs hs2) fun σ H F G => h.go G fun vs H1 F1 M1 ds s1 G1 r1 ⟨i, j, e, h1, q⟩ => by
    subst e
    obtain ⟨v, w, rfl, r, r'⟩ := r1.two
    cases r; cases r'
    exact ⟨i, j, rfl, h1, F1, M1, _, _, s1, G1.st, walkP_range, q⟩
def enumD (ds : List D) : List D := (List.range ds.length).map fun i => D.tup [.int (i : Nat), ds.getD i .non]
theorem enumD_len (ds : List D) : (enumD ds).length = ds.length := by simp [enumD]
theorem enumD_get {ds : List D} {i : Nat} {d : D} (h : ds[i]? = some d) : (enumD ds)[i]? = some (.tup [.int (i : Nat), d]) := by
  have hi := (List.getElem?_eq_some_iff.mp h).1
  have e : ds[i] = d := by
    rw [List.getElem?_eq_getElem hi] at h
    exact Option.some.inj h
  simp [enumD, hi, e]
theorem enumD_inv {ds : List D} {i : Nat} {z : D} (h : (enumD ds)[i]? = some z) : ∃ d, ds[i]? = some d ∧ z = .tup [.int (i : Nat), d] := by
  have hi : i < ds.length := by have := (List.getElem?_eq_some_iff.mp h).1; rwa [enumD_len] at this
  have e : ds[i]? = some ds[i] := by simp
  rw [enumD_get e] at h
  exact ⟨_, e, (Option.some.inj h).symm⟩
/-- a new pair is laid -/
theorem Stt.pair {K : PySem.W.Frag} (S : Stt K F M δ σ H) {T : Addr} {x y : V} {d d' : D} (hT : H T = none) (rx : Rep K F x d) (ry : Rep K F y d') : Same F (upd F T (.tup [x, y])) ∧ Stt K (upd F T (.tup [x, y])) M δ σ (upd H T (.tup [x, y])) ∧ Rep K (upd F T (.tup [x, y])) (.ref T) (.tup [d, d']) := by
  obtain ⟨S', s'⟩ := S.froz (o := .tup [x, y]) hT
  exact ⟨s', S', .tup (.of upd_same) (.cons (rx.up s') (.cons (ry.up s') .nil))⟩
theorem wi_enum {elts : List Expr} {kk : Nat} {tpos : Pos} {R : List D → (Cells → Prop) → Cells → Prop} (hg : Gl X "enumerate") (hm : X.mg "enumerate" = none) (h : WA X P [e] δ M fun ds M1 => ∃ d xs, ds = [d] ∧ LV M1 d xs ∧ R (enumD xs) (fun M' => LV M' d xs) M1) (hs : starEach [e] X.env = [(false, eval e X.env)] := by rfl) : WI X P (.Tuple elts kk tpos) (.Call (.Name "enumerate" p) [e] [] pos) δ M R :=
  wi_of (pi_enum hg hm pa_sem hs) fun σ H F G => h.go G fun vs H1 F1 M1 ds s1 G1 r1 ⟨d, xs, ed, hl, q⟩ => by
    subst ed
    obtain ⟨v, rfl, r⟩ := r1.one
    obtain ⟨a, vs, rfl, e1, e2⟩ := G1.st.readL r hl
    refine ⟨a, vs, rfl, e1, F1, M1, _, _, s1, G1.st, ?_, q⟩
    intro F' M' δ' σ' H' s S hM
    obtain ⟨a', ys, ea, f1, f2⟩ := S.readL (r.up s) hM
    cases ea
    have w := walk_enum (K := X.K) (a := a) (xs := ys)
    rw [enumD_len]
    refine ⟨fun i hi => w.goes i H' (by rw [f2.length]; exact hi) f1, by rw [← f2.length]; exact w.stops H' f1, fun i x H2 hi y => ?_⟩
    obtain ⟨T, x1, x2, rfl, hT, rfl, h1, h2⟩ := w.yields i H' x H2 (by rw [f2.length]; exact hi) f1 y
    cases h1
    obtain ⟨d', g1, g2⟩ := f2.get' h2
    obtain ⟨s', S', r'⟩ := S.pair hT (.int _) g2
    exact ⟨_, _, s', S', enumD_get g1, r'⟩
def zipD (xs ys : List D) : List D := (xs.zip ys).map fun p => D.tup [p.1, p.2]
theorem zipD_len (xs ys : List D) : (zipD xs ys).length = min xs.length ys.length := by simp [zipD]
theorem zipD_get {xs ys : List D} {i : Nat} {x y : D} (h : xs[i]? = some x) (g : ys[i]? = some y) : (zipD xs ys)[i]? = some (.tup [x, y]) := by
  have e : (xs.zip ys)[i]? = some (x, y) := List.getElem?_zip_eq_some.mpr ⟨h, g⟩
  unfold zipD
  rw [List.getElem?_map, e]
  rfl
theorem zipD_inv {xs ys : List D} {i : Nat} {z : D} (h : (zipD xs ys)[i]? = some z) : ∃ x y, xs[i]? = some x ∧ ys[i]? = some y ∧ z = .tup [x, y] := by
  unfold zipD at h
  rw [List.getElem?_map] at h
  cases e : (xs.zip ys)[i]? with
  | none => rw [e] at h; cases h
  | some q =>
    rw [e] at h
    obtain ⟨h1, h2⟩ := List.getElem?_zip_eq_some.mp e
    exact ⟨_, _, h1, h2, (Option.some.inj h).symm⟩
theorem wi_zip {elts : List Expr} {kk : Nat} {tpos : Pos} {R : List D → (Cells → Prop) → Cells → Prop} (hg : Gl X "zip") (hm : X.mg "zip" = none) (h : WA X P [a, b] δ M fun ds M1 => ∃ d1 d2 xs ys, ds = [d1, d2] ∧ LV M1 d1 xs ∧ LV M1 d2 ys ∧ R (zipD xs ys) (fun M' => LV M' d1 xs ∧ LV M' d2 ys) M1)
    (hs : starEach [a, b] X.env = (false, eval a X.env) :: starEach [b] X.env := by rfl) (hpl : (backTo pos (starEach [b] X.env)).any (·.1) = false := by rfl) : WI X P (.Tuple elts kk tpos) (.Call (.Name "zip" p) [a, b] [] pos) δ M R :=
  wi_of (pi_zip hg hm pa_sem hs hpl) fun σ H F G => h.go G fun vs H1 F1 M1 ds s1 G1 r1 ⟨d1, d2, xs, ys, ed, hl1, hl2, q⟩ => by
    subst ed
    obtain ⟨v, v2, rfl, r, r'⟩ := r1.two
    obtain ⟨a, vs, rfl, e1, e2⟩ := G1.st.readL r hl1
    obtain ⟨a', vs', rfl, e1', e2'⟩ := G1.st.readL r' hl2
    refine ⟨a, a', vs, vs', rfl, e1, e1', F1, M1, _, _, s1, G1.st, ?_, q⟩
    intro F' M' δ' σ' H' s S hM
    obtain ⟨_, zs, ea, f1, f2⟩ := S.readL (r.up s) hM.1
    cases ea
    obtain ⟨_, zs', ea, f1', f2'⟩ := S.readL (r'.up s) hM.2
    cases ea
    have w := walk_zip (K := X.K) (a := a) (b := a') (xs := zs) (ys := zs') rfl
    rw [zipD_len]
    have el : min xs.length ys.length = min zs.length zs'.length := by rw [f2.length, f2'.length]
    rw [el]
    refine ⟨fun i hi => w.goes i H' hi ⟨f1, f1'⟩, w.stops H' ⟨f1, f1'⟩, fun i x H2 hi y => ?_⟩
    obtain ⟨T, x1, x2, rfl, hT, rfl, h1, h2⟩ := w.yields i H' x H2 hi ⟨f1, f1'⟩ y
    obtain ⟨z1, g1, g2⟩ := f2.get' h1
    obtain ⟨z2, g3, g4⟩ := f2'.get' h2
    obtain ⟨s', S', r'⟩ := S.pair hT g2 g4
    exact ⟨_, _, s', S', zipD_get g1 g3, r'⟩
end
end PW
/-! PW5 -/
namespace PW
open PySem L2 PyProof.Rows

def wipeD (δ : Slots) : List Nat → Slots
  | [] => δ
  | v :: vs => (wipeD δ vs).set v none
theorem wipeD_length (δ : Slots) : ∀ vs : List Nat, (wipeD δ vs).length = δ.length
  | [] => rfl
  | v :: vs => by unfold wipeD; rw [List.length_set, wipeD_length δ vs]
theorem wipeD_some {δ : Slots} {i : Nat} {x : D} : ∀ {vs : List Nat}, (wipeD δ vs)[i]? = some (some x) → δ[i]? = some (some x) ∧ i ∉ vs
  | [], h => ⟨h, by simp⟩
  | v :: vs, h => by
    unfold wipeD at h
    rcases getElem?_set_cases h with ⟨_, e⟩ | ⟨h1, h2⟩
    · cases e
    · obtain ⟨h3, h4⟩ := wipeD_some h2
      exact ⟨h3, by simp only [List.mem_cons, not_or]; exact ⟨h1, h4⟩⟩
theorem Stt.wipe {K : PySem.W.Frag} {F : Hp} {M : Cells} {δ : Slots} {σ : L2.St} {H : Hp} (S : Stt K F M δ σ H) (vs : List Nat) : Stt K F M (wipeD δ vs) (L2.wipe σ vs) H :=
  S.slots (by rw [wipeD_length, L2.wipe_length]; exact S.dlen) fun i d h => by
    obtain ⟨h1, h2⟩ := wipeD_some h
    obtain ⟨v, e1, e2⟩ := S.slot i d h1
    exact ⟨v, by rw [L2.wipe_out h2]; exact e1, e2⟩
/-- the context of a comprehension's block -/
structure BK where
  s0 : Shared
  H0 : Hp
  C : Addr
  cl : List (Str × Addr)
  fp : List Addr
abbrev Bx (X : Cx) (scope : Scope) (b : BK) : Cx := X.blk b.s0 b.H0 scope (compEnvC scope b.cl b.C X.env) b.fp
theorem Reps.three {K : PySem.W.Frag} {F : Hp} {vs : List V} {d e f : D} (h : Reps K F vs [d, e, f]) : ∃ v w u, vs = [v, w, u] ∧ Rep K F v d ∧ Rep K F w e ∧ Rep K F u f := by
  cases h with
  | cons a b =>
    obtain ⟨w, u, rfl, r1, r2⟩ := b.two
    exact ⟨_, w, u, rfl, a, r1, r2⟩
/-- how a target binds the item in the block's slots: one name, two names -/
inductive Tg (X : Cx) (scope : Scope) : Expr → List (Str × Nat) → (D → Slots → Slots → Prop) → TG → Prop
  | one {x : Str} {i : Nat} {pos : Pos} (hi : X.N[i]? = some x) (hx : scope.names.lookup x = some .local) : Tg X scope (.Name x pos) [(x, i)] (fun d δ δ' => δ' = δ.set i (some d)) (gName i)
  | two {x y : Str} {i j : Nat} {px py pos : Pos} {kk : Nat} (hi : X.N[i]? = some x) (hj : X.N[j]? = some y) (hij : i ≠ j) (hx : scope.names.lookup x = some .local) (hy : scope.names.lookup y = some .local) :
      Tg X scope (.Tuple [.Name x px, .Name y py] kk pos) [(x, i), (y, j)] (fun d δ δ' => ∃ d1 d2, d = .tup [d1, d2] ∧ δ' = (δ.set i (some d1)).set j (some d2)) (gTup X.K 2 (gCons (gName i) (gCons (gName j) gNil)))
  | three {x y z : Str} {i j k : Nat} {px py pz pos : Pos} {kk : Nat} (hi : X.N[i]? = some x) (hj : X.N[j]? = some y) (hk : X.N[k]? = some z) (hne : i ≠ j ∧ i ≠ k ∧ j ≠ k) (hx : scope.names.lookup x = some .local) (hy : scope.names.lookup y = some .local) (hz : scope.names.lookup z = some .local) :
      Tg X scope (.Tuple [.Name x px, .Name y py, .Name z pz] kk pos) [(x, i), (y, j), (z, k)] (fun d δ δ' => ∃ d1 d2 d3, d = .tup [d1, d2, d3] ∧ δ' = ((δ.set i (some d1)).set j (some d2)).set k (some d3)) (gTup X.K 3 (gCons (gName i) (gCons (gName j) (gCons (gName k) gNil))))
  | four {x y z u : Str} {i j k l : Nat} {px py pz pu pa pb pos : Pos} {kk ka kb : Nat} (hi : X.N[i]? = some x) (hj : X.N[j]? = some y) (hk : X.N[k]? = some z) (hl : X.N[l]? = some u) (hne : i ≠ j ∧ i ≠ k ∧ i ≠ l ∧ j ≠ k ∧ j ≠ l ∧ k ≠ l)
      (hx : scope.names.lookup x = some .local) (hy : scope.names.lookup y = some .local) (hz : scope.names.lookup z = some .local) (hu : scope.names.lookup u = some .local) :
      Tg X scope (.Tuple [.Tuple [.Name x px, .Name y py] ka pa, .Tuple [.Name z pz, .Name u pu] kb pb] kk pos) [(x, i), (y, j), (z, k), (u, l)] (fun d δ δ' => ∃ d1 d2 d3 d4, d = .tup [.tup [d1, d2], .tup [d3, d4]] ∧ δ' = (((δ.set i (some d1)).set j (some d2)).set k (some d3)).set l (some d4))
      (gTup X.K 2 (gCons (gTup X.K 2 (gCons (gName i) (gCons (gName j) gNil))) (gCons (gTup X.K 2 (gCons (gName k) (gCons (gName l) gNil))) gNil)))
section
variable {X : Cx} {P : XP} {F : Hp} {M : Cells} {δ : Slots} {σ : L2.St} {H : Hp} {e a b c o elt iter tg : Expr} {es ifs : List Expr} {pos apos cpos p p2 : Pos} {scope : Scope} {own : List (Str × Nat)} {bind : D → Slots → Slots → Prop} {g : TG}
theorem blk_loc {scope : Scope} {x : Str} {cl : List (Str × Addr)} {C : Addr} {env : Env} (hx : scope.names.lookup x = some .local) : (compEnvC scope cl C env).scope.names.lookup x = some .local := lookup_relabel_local hx
theorem Tg.pg (N : Nice X) (T : Tg X scope tg own bind g) (s : Shared) (H : Hp) (C : Addr) (cl : List (Str × Addr)) (fp : List Addr) : PG (X.blk s H scope (compEnvC scope cl C X.env) fp) tg g := by
  cases T with
  | one hi hx => exact pg_name N.nd hi (.inl (blk_loc hx)) (.inr (blk_loc hx))
  | two hi hj hij hx hy => exact pg_tup N.calm (pgs_cons (pg_name N.nd hi (.inl (blk_loc hx)) (.inr (blk_loc hx))) (pgs_cons (pg_name N.nd hj (.inl (blk_loc hy)) (.inr (blk_loc hy))) pgs_nil))
  | three hi hj hk hne hx hy hz => exact pg_tup N.calm (pgs_cons (pg_name N.nd hi (.inl (blk_loc hx)) (.inr (blk_loc hx))) (pgs_cons (pg_name N.nd hj (.inl (blk_loc hy)) (.inr (blk_loc hy))) (pgs_cons (pg_name N.nd hk (.inl (blk_loc hz)) (.inr (blk_loc hz))) pgs_nil)))
  | four hi hj hk hl hne hx hy hz hu => exact pg_tup N.calm (pgs_cons (pg_tup N.calm (pgs_cons (pg_name N.nd hi (.inl (blk_loc hx)) (.inr (blk_loc hx))) (pgs_cons (pg_name N.nd hj (.inl (blk_loc hy)) (.inr (blk_loc hy))) pgs_nil)))
      (pgs_cons (pg_tup N.calm (pgs_cons (pg_name N.nd hk (.inl (blk_loc hz)) (.inr (blk_loc hz))) (pgs_cons (pg_name N.nd hl (.inl (blk_loc hu)) (.inr (blk_loc hu))) pgs_nil))) pgs_nil))
theorem Tg.run {d : D} {δ' : Slots} {x : V} (T : Tg X scope tg own bind g) (S : Stt X.K F M δ σ H) (r : Rep X.K F x d) (hb : bind d (wipeD δ (own.map (·.2))) δ') {K' : L2.St → Hp → Prop}
    (k : ∀ σ', Stt X.K F M δ' σ' H → L2.wipe σ' (own.map (·.2)) = L2.wipe σ (own.map (·.2)) → K' σ' H) : g x (L2.wipe σ (own.map (·.2))) H K' := by
  cases T with
  | @one y i _ hi hx =>
    subst hb
    refine k _ ((S.wipe [i]).setSlot r) ?_
    show ((σ.set i none).set i (some x)).set i none = σ.set i none
    rw [List.set_set, List.set_set]
  | @two y z i j _ _ _ _ hi hj hij hx hy =>
    obtain ⟨d1, d2, rfl, rfl⟩ := hb
    obtain ⟨a, vs, rfl, e1, e2⟩ := S.readT r
    obtain ⟨v, w, rfl, r1, r2⟩ := e2.two
    refine ⟨a, [v, w], rfl, e1, rfl, v, [w], rfl, w, [], rfl, rfl, k _ (((S.wipe [i, j]).setSlot r1).setSlot r2) ?_⟩
    show (((((σ.set j none).set i none).set i (some v)).set j (some w)).set j none).set i none = (σ.set j none).set i none
    rw [List.set_set, List.set_set, List.set_comm _ _ hij, List.set_set, List.set_set, List.set_comm _ _ (Ne.symm hij)]
  | @three y z u2 i j k4 _ _ _ _ _ hi hj hk hne hx hy hz =>
    obtain ⟨d1, d2, d3, rfl, rfl⟩ := hb
    obtain ⟨a, vs, rfl, e1, e2⟩ := S.readT r
    obtain ⟨v, w, u, rfl, r1, r2, r3⟩ := e2.three
    refine ⟨a, [v, w, u], rfl, e1, rfl, v, [w, u], rfl, w, [u], rfl, u, [], rfl, rfl, k _ ((((S.wipe [i, j, k4]).setSlot r1).setSlot r2).setSlot r3) ?_⟩
    refine List.ext_getElem? fun n => ?_
    show (((((((((σ.set k4 none).set j none).set i none).set i (some v)).set j (some w)).set k4 (some u)).set k4 none).set j none).set i none)[n]? = (((σ.set k4 none).set j none).set i none)[n]?
    simp only [List.getElem?_set, List.length_set]
    by_cases a1 : i = n <;> by_cases a2 : j = n <;> by_cases a3 : k4 = n <;> simp [a1, a2, a3]
  | @four y z u2 u3 i j k4 l4 _ _ _ _ _ _ _ _ _ _ hi hj hk hl hne hx hy hz hu =>
    obtain ⟨d1, d2, d3, d4, rfl, rfl⟩ := hb
    obtain ⟨a, vs, rfl, e1, e2⟩ := S.readT r
    obtain ⟨v, w, rfl, r1, r2⟩ := e2.two
    obtain ⟨a1, vs1, rfl, e11, e12⟩ := S.readT r1
    obtain ⟨a2, vs2, rfl, e21, e22⟩ := S.readT r2
    obtain ⟨v1, w1, rfl, r11, r12⟩ := e12.two
    obtain ⟨v2, w2, rfl, r21, r22⟩ := e22.two
    refine ⟨a, [_, _], rfl, e1, rfl, _, [_], rfl, a1, [v1, w1], rfl, e11, rfl, v1, [w1], rfl, w1, [], rfl, rfl, _, [], rfl, a2, [v2, w2], rfl, e21, rfl, v2, [w2], rfl, w2, [], rfl, rfl, rfl, k _ (((((S.wipe [i, j, k4, l4]).setSlot r11).setSlot r12).setSlot r21).setSlot r22) ?_⟩
    refine List.ext_getElem? fun n => ?_
    show ((((((((((((σ.set l4 none).set k4 none).set j none).set i none).set i (some v1)).set j (some w1)).set k4 (some v2)).set l4 (some w2)).set l4 none).set k4 none).set j none).set i none)[n]? = ((((σ.set l4 none).set k4 none).set j none).set i none)[n]?
    simp only [List.getElem?_set, List.length_set]
    by_cases a1 : i = n <;> by_cases a2 : j = n <;> by_cases a3 : k4 = n <;> by_cases a4 : l4 = n <;> simp [a1, a2, a3, a4]
/-- a block's tests -/
def Tt (K : PySem.W.Frag) (tt : TT) (δ : Slots) (M : Cells) (Q : Bool → Cells → Prop) : Prop := ∀ σ H F (Q' : Bool → Hp → Prop), Stt K F M δ σ H → (∀ k H', upT K F δ σ Q k H' → Q' k H') → tt σ H Q'
/-- a list comprehension with one for, as an expression or as what a name is set to -/
def LC (X : Cx) (P : XP) (elt tg iter : Expr) (ifs : List Expr) (scope : Scope) (δ : Slots) (M : Cells) (Q : D → Cells → Prop) : Prop :=
  ∃ (own : List (Str × Nat)) (g : TG) (tt : TT) (te : TE), BlkOk X.N X.env.scope scope own ∧ (∀ (s : Shared) (H : Hp) (C : Addr) (cl : List (Str × Addr)) (fp : List Addr), PG (X.blk s H scope (compEnvC scope cl C X.env) fp) tg g) ∧
    (∀ (s : Shared) (H : Hp) (C : Addr) (cl : List (Str × Addr)) (fp : List Addr), PTs (X.blk s H scope (compEnvC scope cl C X.env) fp) ifs tt) ∧ (∀ (s : Shared) (H : Hp) (C : Addr) (cl : List (Str × Addr)) (fp : List Addr), PE (X.blk s H scope (compEnvC scope cl C X.env) fp) elt te) ∧
    (∀ x, foldedSetIterable iter X.env x = pure x) ∧ ∀ σ H F (Q' : VK), Go X P F M δ σ H → (∀ v H', upE X.K F δ σ Q v H' → Q' v H') → tLc (tI X tg iter) g tt te (own.map (·.2)) σ H Q'
theorem we_ofLC {Q : D → Cells → Prop} (N : Nice X) (h : LC X P elt tg iter ifs scope δ M Q) : WE X P (.ListComp elt [⟨tg, iter, ifs, 0⟩] scope pos) δ M Q := by
  obtain ⟨own, g, tt, te, ok, pg, pts, pe, hs, r⟩ := h
  exact we_of (pe_lc N.calm N.nd pi_sem ok pg pts pe hs) fun σ H F G => r σ H F _ G fun _ _ z => z
/-- name = [..] on one line, the name a local -/
theorem ws_setLC {E : En} {i : Nat} {y : Str} {py spos : Pos} (N : Nice X) (hi : X.N[i]? = some y) (hyl : X.env.scope.names.lookup y = some .local) (h : LC X P elt tg iter ifs scope δ M fun d M' => E.nx (δ.set i (some d)) M')
    (hk : X.env.scope.kind = .function := by rfl) (hl : (py.line == pos.line) = true := by rfl) (ha : (scope.names.any fun (n, k) => n == y && (k == .local || k == .cell)) = false := by rfl) :
    WS X P (.Assign [.Name y py] (.ListComp elt [⟨tg, iter, ifs, 0⟩] scope pos) spos) δ M E := by
  obtain ⟨own, g, tt, te, ok, pg, pts, pe, hs, r⟩ := h
  exact ws_of (ps_setLc N.calm N.nd hi hyl (sw_true hk hyl hl ha) pi_sem ok pg pts pe hs) fun σ H F G => r σ H F _ G fun v H' ⟨F', M', d, s, S, rr, q⟩ => nx_ (S.setSlot rr) s q
theorem lc_froz (k : Nat) {Q : D → Cells → Prop} (h : LC X P elt tg iter ifs scope δ M fun d M1 => ∃ (p : Addr) (ds : List D), d = .cel p ∧ M1[k]? = some (p, .lst ds) ∧ Q (.lst ds) (M1.eraseIdx k)) : LC X P elt tg iter ifs scope δ M Q := by
  obtain ⟨own, g, tt, te, ok, pg, pts, pe, hs, r⟩ := h
  refine ⟨own, g, tt, te, ok, pg, pts, pe, hs, fun σ H F Q' G k' => r σ H F Q' G fun v H' ⟨F1, M1, d, s1, S1, r1, p, ds, e, hk, q⟩ => ?_⟩
  subst e
  cases r1
  obtain ⟨F2, s2, S2, r2⟩ := S1.freeze hk
  exact k' _ _ (ret S2 (s1.trans s2) r2 q)
theorem lc_main (N : Nice X) (T : Tg X scope tg own bind g) (ok : BlkOk X.N X.env.scope scope own) {tt : TT} (ht : ∀ (s : Shared) (H : Hp) (C : Addr) (cl : List (Str × Addr)) (fp : List Addr), PTs (X.blk s H scope (compEnvC scope cl C X.env) fp) ifs tt) {Q : D → Cells → Prop}
    (h : WI X P tg iter δ M fun ds Sb M1 => ∃ J : Nat → List D → Cells → Prop, J 0 [] M1 ∧ (∀ i acc M' p, i ≤ ds.length → J i acc M' → Sb ((p, .lst acc) :: M')) ∧
      (∀ i d acc M' p, ds[i]? = some d → J i acc M' → ∃ δ', bind d (wipeD δ (own.map (·.2))) δ' ∧ Tt X.K tt δ' ((p, .lst acc) :: M') fun k M2 =>
        if k = true then ∀ B : BK, WE (Bx X scope B) PX0 elt δ' M2 fun y M3 => ∃ acc' M4, M3 = (p, .lst acc') :: M4 ∧ acc'.length < sizeLine ∧ J (i + 1) (acc' ++ [y]) M4
        else ∃ acc' M4, M2 = (p, .lst acc') :: M4 ∧ J (i + 1) acc' M4) ∧
      ∀ acc M' p, J ds.length acc M' → Q (.cel p) ((p, .lst acc) :: M'))
    (hs : ∀ x, foldedSetIterable iter X.env x = pure x) : LC X P elt tg iter ifs scope δ M Q := by
  refine ⟨own, g, tt, fun σ H Q => ∀ B : BK, tE (Bx X scope B) elt σ H Q, ok, T.pg N, ht, fun s H C cl fp => ⟨fun pins s' σ H' Q I h => h ⟨s, H, C, cl, fp⟩ pins s' I⟩, hs, fun σ H F Q' G kq => ?_⟩
  refine (h σ H F G).mono fun J H1 ⟨F1, M1, ds, Sb, s1, S1, wk, Jv, j0, jS, jT, jE⟩ => fun D hD => ?_
  refine ⟨fun i m H' => m = ds.length - i ∧ i ≤ ds.length ∧ ∃ F' M' acc, Same F1 F' ∧ Stt X.K F' ((D, .lst acc) :: M') δ σ H' ∧ Jv i acc M', ⟨ds.length, by simp, Nat.zero_le _, F1, M1, [], Same.refl _, S1.newL hD .nil, j0⟩, ?_⟩
  rintro i m H2 ⟨rfl, hi, F2, M2, acc, s2, S2, j2⟩
  obtain ⟨wg, ws, wy⟩ := wk F2 _ δ σ H2 s2 S2 (jS i acc M2 D hi j2)
  by_cases hlt : i < ds.length
  · refine .inr ⟨wg i hlt, fun H' => ∃ F' M' acc', Same F1 F' ∧ Stt X.K F' ((D, .lst acc') :: M') δ σ H' ∧ Jv (i + 1) acc' M', fun H' ⟨F', M', acc', s', S', j'⟩ => ⟨ds.length - (i + 1), by omega, rfl, hlt, F', M', acc', s', S', j'⟩, fun x H3 y => ?_⟩
    obtain ⟨F3, d, s3, S3, hd, r3⟩ := wy i x H3 hlt y
    obtain ⟨δ', hb, hT⟩ := jT i d acc M2 D hd j2
    refine T.run S3 r3 hb fun σ' S' ew => ⟨ew, hT σ' H3 F3 _ S' fun k H4 ⟨F4, M4, s4, S4, q4⟩ => ?_⟩
    have s14 : Same F1 F4 := (s2.trans s3).trans s4
    cases k with
    | false =>
      rw [if_neg (by decide)] at q4 ⊢
      obtain ⟨acc', M5, rfl, j5⟩ := q4
      exact ⟨F4, M5, acc', s14, S4.keep S1 s14, j5⟩
    | true =>
      rw [if_pos rfl] at q4 ⊢
      intro B
      refine (q4 B).go ⟨S4, TakesP.none⟩ fun yv H5 F5 M5 yd s5 G5 r5 q5 => ?_
      obtain ⟨acc', M6, rfl, hl, j6⟩ := q5
      obtain ⟨vs, e1, e2, e3⟩ := G5.st.cellAt (List.Mem.head _)
      have S6 := G5.st.setCell (k := 0) (c' := .lst (acc' ++ [yd])) rfl ⟨vs ++ [yv], upd_same, e3.append (.cons r5 .nil)⟩
      exact ⟨vs, e1, by rw [e3.length]; exact hl, F5, M6, acc' ++ [yd], s14.trans s5, Stt.keep (K := X.K) S6 S1 (s14.trans s5), j6⟩
  · have e : i = ds.length := by omega
    subst e
    exact .inl ⟨ws, kq _ _ (ret S2 (s1.trans s2) (.cel D) (jE acc M2 D j2))⟩
/-- no test -/
theorem lc_lc (N : Nice X) (T : Tg X scope tg own bind g) (ok : BlkOk X.N X.env.scope scope own) {Q : D → Cells → Prop}
    (h : WI X P tg iter δ M fun ds Sb M1 => ∃ J : Nat → List D → Cells → Prop, J 0 [] M1 ∧ (∀ i acc M' p, i ≤ ds.length → J i acc M' → Sb ((p, .lst acc) :: M')) ∧
      (∀ i d acc M' p, ds[i]? = some d → J i acc M' → ∃ δ', bind d (wipeD δ (own.map (·.2))) δ' ∧ ∀ B : BK, WE (Bx X scope B) PX0 elt δ' ((p, .lst acc) :: M') fun y M3 => ∃ acc' M4, M3 = (p, .lst acc') :: M4 ∧ acc'.length < sizeLine ∧ J (i + 1) (acc' ++ [y]) M4) ∧
      ∀ acc M' p, J ds.length acc M' → Q (.cel p) ((p, .lst acc) :: M'))
    (hs : ∀ x, foldedSetIterable iter X.env x = pure x := by intro _; rfl) : LC X P elt tg iter [] scope δ M Q := by
  refine lc_main N T ok (fun _ _ _ _ _ => pts_nil) ?_ hs
  intro σ H F G
  refine (h σ H F G).mono fun J H1 ⟨F1, M1, ds, Sb, s1, S1, wk, Jv, j0, jS, jT, jE⟩ => ⟨F1, M1, ds, Sb, s1, S1, wk, Jv, j0, jS, fun i d acc M' p hd j => ?_, jE⟩
  obtain ⟨δ', hb, hB⟩ := jT i d acc M' p hd j
  exact ⟨δ', hb, fun σ H F Q' S k => k true H ⟨F, _, Same.refl _, S, by show (if true = true then _ else _); rw [if_pos rfl]; exact hB⟩⟩
/-- one test -/
theorem lc_lcIf (N : Nice X) (T : Tg X scope tg own bind g) (ok : BlkOk X.N X.env.scope scope own) {Q : D → Cells → Prop}
    (h : WI X P tg iter δ M fun ds Sb M1 => ∃ J : Nat → List D → Cells → Prop, J 0 [] M1 ∧ (∀ i acc M' p, i ≤ ds.length → J i acc M' → Sb ((p, .lst acc) :: M')) ∧
      (∀ i d acc M' p, ds[i]? = some d → J i acc M' → ∃ δ', bind d (wipeD δ (own.map (·.2))) δ' ∧ ∀ B : BK, WT (Bx X scope B) PX0 c δ' ((p, .lst acc) :: M') fun k M2 =>
        if k = true then ∀ B : BK, WE (Bx X scope B) PX0 elt δ' M2 fun y M3 => ∃ acc' M4, M3 = (p, .lst acc') :: M4 ∧ acc'.length < sizeLine ∧ J (i + 1) (acc' ++ [y]) M4
        else ∃ acc' M4, M2 = (p, .lst acc') :: M4 ∧ J (i + 1) acc' M4) ∧
      ∀ acc M' p, J ds.length acc M' → Q (.cel p) ((p, .lst acc) :: M'))
    (hs : ∀ x, foldedSetIterable iter X.env x = pure x := by intro _; rfl) : LC X P elt tg iter [c] scope δ M Q := by
  refine lc_main (tt := fun σ H Q => ∀ B : BK, tT (Bx X scope B) c σ H Q) N T ok (fun s H C cl fp => pts_one ⟨fun pins s' σ H' Q I h => h ⟨s, H, C, cl, fp⟩ pins s' I⟩) ?_ hs
  intro σ H F G
  refine (h σ H F G).mono fun J H1 ⟨F1, M1, ds, Sb, s1, S1, wk, Jv, j0, jS, jT, jE⟩ => ⟨F1, M1, ds, Sb, s1, S1, wk, Jv, j0, jS, fun i d acc M' p hd j => ?_, jE⟩
  obtain ⟨δ', hb, hB⟩ := jT i d acc M' p hd j
  exact ⟨δ', hb, fun σ H F Q' S k B => (hB B).go ⟨S, TakesP.none⟩ fun v H' F' M' s G' q => k v H' ⟨F', M', s, G'.st, q⟩⟩
/-- the elements by a function of the item, the cells as they were -/
theorem lc_lcM (f : D → D) (N : Nice X) (T : Tg X scope tg own bind g) (ok : BlkOk X.N X.env.scope scope own) {Q : D → Cells → Prop}
    (h : WI X P tg iter δ M fun ds Sb M1 => ds.length ≤ sizeLine ∧ (∀ p acc, Sb ((p, .lst acc) :: M1)) ∧
      (∀ (i : Nat) d acc p, ds[i]? = some d → ∃ δ', bind d (wipeD δ (own.map (·.2))) δ' ∧ ∀ B : BK, WE (Bx X scope B) PX0 elt δ' ((p, .lst acc) :: M1) fun y M3 => M3 = (p, .lst acc) :: M1 ∧ y = f d) ∧
      ∀ p, Q (.cel p) ((p, .lst (ds.map f)) :: M1))
    (hs : ∀ x, foldedSetIterable iter X.env x = pure x := by intro _; rfl) : LC X P elt tg iter [] scope δ M Q := by
  refine lc_lc N T ok ?_ hs
  intro σ H F G
  refine (h σ H F G).mono fun J H1 ⟨F1, M1, ds, Sb, s1, S1, wk, hl, hS, hT, hE⟩ => ⟨F1, M1, ds, Sb, s1, S1, wk, fun i acc M' => M' = M1 ∧ acc = (ds.take i).map f, ⟨rfl, by simp⟩, fun i acc M' p hi ⟨e1, e2⟩ => by subst e1; exact hS p acc, fun i d acc M' p hd ⟨e1, e2⟩ => ?_, fun acc M' p ⟨e1, e2⟩ => by subst e1 e2; simpa using hE p⟩
  subst e1
  obtain ⟨δ', hb, hB⟩ := hT i d acc p hd
  have hi := (List.getElem?_eq_some_iff.mp hd).1
  refine ⟨δ', hb, fun B => (hB B).imp fun y M3 ⟨e3, e4⟩ => ⟨acc, _, e3, ?_, rfl, ?_⟩⟩
  · rw [e2, List.length_map, List.length_take]; omega
  · rw [e4, e2, List.take_succ, hd]; simp
/-- and a test by a function of the item -/
theorem lc_lcF (k : D → Bool) (f : D → D) (N : Nice X) (T : Tg X scope tg own bind g) (ok : BlkOk X.N X.env.scope scope own) {Q : D → Cells → Prop}
    (h : WI X P tg iter δ M fun ds Sb M1 => ds.length ≤ sizeLine ∧ (∀ p acc, Sb ((p, .lst acc) :: M1)) ∧
      (∀ (i : Nat) d acc p, ds[i]? = some d → ∃ δ', bind d (wipeD δ (own.map (·.2))) δ' ∧ ∀ B : BK, WT (Bx X scope B) PX0 c δ' ((p, .lst acc) :: M1) fun z M2 => M2 = (p, .lst acc) :: M1 ∧ z = k d ∧ (k d = true → ∀ B : BK, WE (Bx X scope B) PX0 elt δ' ((p, .lst acc) :: M1) fun y M3 => M3 = (p, .lst acc) :: M1 ∧ y = f d)) ∧
      ∀ p, Q (.cel p) ((p, .lst ((ds.filter k).map f)) :: M1))
    (hs : ∀ x, foldedSetIterable iter X.env x = pure x := by intro _; rfl) : LC X P elt tg iter [c] scope δ M Q := by
  refine lc_lcIf N T ok ?_ hs
  intro σ H F G
  refine (h σ H F G).mono fun J H1 ⟨F1, M1, ds, Sb, s1, S1, wk, hl, hS, hT, hE⟩ => ⟨F1, M1, ds, Sb, s1, S1, wk, fun i acc M' => M' = M1 ∧ acc = ((ds.take i).filter k).map f, ⟨rfl, by simp⟩, fun i acc M' p hi ⟨e1, e2⟩ => by subst e1; exact hS p acc, fun i d acc M' p hd ⟨e1, e2⟩ => ?_, fun acc M' p ⟨e1, e2⟩ => by subst e1 e2; simpa using hE p⟩
  subst e1
  obtain ⟨δ', hb, hB⟩ := hT i d acc p hd
  have hi := (List.getElem?_eq_some_iff.mp hd).1
  refine ⟨δ', hb, fun B => (hB B).imp fun z M2 ⟨e3, e4, e5⟩ => ?_⟩
  subst e3 e4
  have el : acc.length < sizeLine := by
    rw [e2, List.length_map]
    have := List.length_filter_le k (ds.take i)
    rw [List.length_take] at this; omega
  cases hk : k d with
  | false =>
    rw [if_neg (by decide)]
    refine ⟨acc, _, rfl, rfl, ?_⟩
    rw [e2, List.take_succ, hd]; simp [hk]
  | true =>
    rw [if_pos rfl]
    refine fun B => (e5 hk B).imp fun y M3 ⟨e6, e7⟩ => ⟨acc, _, e6, el, rfl, ?_⟩
    rw [e7, e2, List.take_succ, hd]; simp [hk]

theorem we_lc (N : Nice X) (T : Tg X scope tg own bind g) (ok : BlkOk X.N X.env.scope scope own) {Q : D → Cells → Prop}
    (h : WI X P tg iter δ M fun ds Sb M1 => ∃ J : Nat → List D → Cells → Prop, J 0 [] M1 ∧ (∀ i acc M' p, i ≤ ds.length → J i acc M' → Sb ((p, .lst acc) :: M')) ∧
      (∀ i d acc M' p, ds[i]? = some d → J i acc M' → ∃ δ', bind d (wipeD δ (own.map (·.2))) δ' ∧ ∀ B : BK, WE (Bx X scope B) PX0 elt δ' ((p, .lst acc) :: M') fun y M3 => ∃ acc' M4, M3 = (p, .lst acc') :: M4 ∧ acc'.length < sizeLine ∧ J (i + 1) (acc' ++ [y]) M4) ∧
      ∀ acc M' p, J ds.length acc M' → Q (.cel p) ((p, .lst acc) :: M'))
    (hs : ∀ x, foldedSetIterable iter X.env x = pure x := by intro _; rfl) : WE X P (.ListComp elt [⟨tg, iter, [], 0⟩] scope pos) δ M Q := we_ofLC N (lc_lc N T ok h hs)
theorem we_lcM (f : D → D) (N : Nice X) (T : Tg X scope tg own bind g) (ok : BlkOk X.N X.env.scope scope own) {Q : D → Cells → Prop}
    (h : WI X P tg iter δ M fun ds Sb M1 => ds.length ≤ sizeLine ∧ (∀ p acc, Sb ((p, .lst acc) :: M1)) ∧
      (∀ (i : Nat) d acc p, ds[i]? = some d → ∃ δ', bind d (wipeD δ (own.map (·.2))) δ' ∧ ∀ B : BK, WE (Bx X scope B) PX0 elt δ' ((p, .lst acc) :: M1) fun y M3 => M3 = (p, .lst acc) :: M1 ∧ y = f d) ∧
      ∀ p, Q (.cel p) ((p, .lst (ds.map f)) :: M1))
    (hs : ∀ x, foldedSetIterable iter X.env x = pure x := by intro _; rfl) : WE X P (.ListComp elt [⟨tg, iter, [], 0⟩] scope pos) δ M Q := we_ofLC N (lc_lcM f N T ok h hs)
theorem we_lcF (k : D → Bool) (f : D → D) (N : Nice X) (T : Tg X scope tg own bind g) (ok : BlkOk X.N X.env.scope scope own) {Q : D → Cells → Prop}
    (h : WI X P tg iter δ M fun ds Sb M1 => ds.length ≤ sizeLine ∧ (∀ p acc, Sb ((p, .lst acc) :: M1)) ∧
      (∀ (i : Nat) d acc p, ds[i]? = some d → ∃ δ', bind d (wipeD δ (own.map (·.2))) δ' ∧ ∀ B : BK, WT (Bx X scope B) PX0 c δ' ((p, .lst acc) :: M1) fun z M2 => M2 = (p, .lst acc) :: M1 ∧ z = k d ∧ (k d = true → ∀ B : BK, WE (Bx X scope B) PX0 elt δ' ((p, .lst acc) :: M1) fun y M3 => M3 = (p, .lst acc) :: M1 ∧ y = f d)) ∧
      ∀ p, Q (.cel p) ((p, .lst ((ds.filter k).map f)) :: M1))
    (hs : ∀ x, foldedSetIterable iter X.env x = pure x := by intro _; rfl) : WE X P (.ListComp elt [⟨tg, iter, [c], 0⟩] scope pos) δ M Q := we_ofLC N (lc_lcF k f N T ok h hs)
theorem we_append {Q : D → Cells → Prop} (h : WE X P o δ M fun x M1 => ∃ q, x = .cel q ∧ (∃ (k : Nat) (ds : List D), M1[k]? = some (q, .lst ds)) ∧ WA X P [e] δ M1 fun ys M2 => ∃ (y : D) (k : Nat) (ds : List D), ys = [y] ∧ M2[k]? = some (q, .lst ds) ∧ ds.length < sizeLine ∧ Q .non (M2.set k (q, .lst (ds ++ [y]))))
    (hbase : attributeBase o "append" X.env (eval o X.env) = eval o X.env := by rfl)
    (hfew : ((backTo cpos (starEach [e] X.env)).all (fun x => !x.1) && (backToKw cpos (keywordEach [] X.env)).all (fun x => x.1.isSome)
      && decide (([e] : List Expr).length + ([] : List Keyword).length + (if ([] : List Keyword).isEmpty then 0 else 1) < 30)) = true := by rfl)
    (hline : (apos.endLine == cpos.line) = true := by rfl) (hs : starEach [e] X.env = (false, eval e X.env) :: starEach [] X.env := by rfl) (hplain : (backTo cpos (starEach [] X.env)).any (·.1) = false := by rfl) :
    WE X P (.Call (.Attribute o "append" apos) [e] [] cpos) δ M Q :=
  we_of (pe_bm PySem.F.plainAttrs_list PySem.F.slot_list_append PySem.F.type_list_append mt_append pe_sem pa_sem hbase hfew hline hs hplain) fun σ H F G => h.go G fun v H1 F1 M1 x s1 G1 r1 q1 => by
    obtain ⟨q, rfl, ⟨k0, ds0, hk0⟩, q1⟩ := q1
    cases r1
    obtain ⟨vs0, e0, _⟩ := G1.st.cellAt (List.mem_of_getElem? hk0)
    refine ⟨.inl ⟨rfl, vs0, .of e0⟩, q1.go G1 fun ws H2 F2 M2 ys s2 G2 r2 q2 => ?_⟩
    obtain ⟨y, k, ds, rfl, hk, hl, hq⟩ := q2
    obtain ⟨w, rfl, rw'⟩ := r2.one
    obtain ⟨vs, e1, e2, e3⟩ := G2.st.cellAt (List.mem_of_getElem? hk)
    refine ⟨q, vs, w, rfl, rfl, e1, by rw [e3.length]; exact hl, ?_⟩
    exact ret (G2.st.setCell (c' := .lst (ds ++ [y])) hk ⟨vs ++ [w], upd_same, e3.append (.cons rw' .nil)⟩) (s1.trans s2) .non hq
theorem we_pop {Q : D → Cells → Prop} (h : WE X P o δ M fun x M1 => ∃ (q : Addr) (k : Nat) (ds : List D) (y : D), x = .cel q ∧ M1[k]? = some (q, .lst ds) ∧ ds[ds.length - 1]? = some y ∧ Q y (M1.set k (q, .lst ds.dropLast)))
    (hbase : attributeBase o "pop" X.env (eval o X.env) = eval o X.env := by rfl) (hline : (apos.endLine == cpos.line) = true := by rfl) : WE X P (.Call (.Attribute o "pop" apos) [] [] cpos) δ M Q :=
  we_of (pe_bm0 PySem.F.plainAttrs_list PySem.F.slot_list_pop PySem.F.type_list_pop mt_pop pe_sem hbase hline) fun σ H F G => h.go G fun v H1 F1 M1 x s1 G1 r1 q1 => by
    obtain ⟨q, k, ds, y, rfl, hk, hy, hq⟩ := q1
    cases r1
    obtain ⟨vs, e1, e2, e3⟩ := G1.st.cellAt (List.mem_of_getElem? hk)
    obtain ⟨w, hw, rw'⟩ := e3.get hy
    refine ⟨.inl ⟨rfl, vs, .of e1⟩, q, vs, w, rfl, rfl, e1, by rw [e3.length]; exact hw, ?_⟩
    refine ret (G1.st.setCell (c' := .lst ds.dropLast) hk ⟨vs.dropLast, upd_same, ?_⟩) s1 rw' hq
    have := e3.take (vs.length - 1)
    rw [List.dropLast_eq_take, List.dropLast_eq_take, ← e3.length]; exact this
theorem we_extend {Q : D → Cells → Prop} (h : WE X P o δ M fun x M1 => ∃ q, x = .cel q ∧ (∃ (k : Nat) (ds : List D), M1[k]? = some (q, .lst ds)) ∧ WA X P [e] δ M1 fun ys M2 => ∃ (b : Addr) (k : Nat) (ds : List D) (j : Nat) (es : List D), ys = [.cel b] ∧ M2[k]? = some (q, .lst ds) ∧ M2[j]? = some (b, .lst es) ∧ ds.length + es.length ≤ sizeLine ∧ Q .non (M2.set k (q, .lst (ds ++ es))))
    (hbase : attributeBase o "extend" X.env (eval o X.env) = eval o X.env := by rfl)
    (hfew : ((backTo cpos (starEach [e] X.env)).all (fun x => !x.1) && (backToKw cpos (keywordEach [] X.env)).all (fun x => x.1.isSome)
      && decide (([e] : List Expr).length + ([] : List Keyword).length + (if ([] : List Keyword).isEmpty then 0 else 1) < 30)) = true := by rfl)
    (hline : (apos.endLine == cpos.line) = true := by rfl) (hs : starEach [e] X.env = (false, eval e X.env) :: starEach [] X.env := by rfl) (hplain : (backTo cpos (starEach [] X.env)).any (·.1) = false := by rfl) :
    WE X P (.Call (.Attribute o "extend" apos) [e] [] cpos) δ M Q :=
  we_of (pe_bm PySem.F.plainAttrs_list PySem.F.slot_list_extend PySem.F.type_list_extend mt_extend pe_sem pa_sem hbase hfew hline hs hplain) fun σ H F G => h.go G fun v H1 F1 M1 x s1 G1 r1 q1 => by
    obtain ⟨q, rfl, ⟨k0, ds0, hk0⟩, q1⟩ := q1
    cases r1
    obtain ⟨vs0, e0, _⟩ := G1.st.cellAt (List.mem_of_getElem? hk0)
    refine ⟨.inl ⟨rfl, vs0, .of e0⟩, q1.go G1 fun ws H2 F2 M2 ys s2 G2 r2 q2 => ?_⟩
    obtain ⟨b, k, ds, j, es, rfl, hk, hj, hl, hq⟩ := q2
    obtain ⟨w, rfl, rw'⟩ := r2.one
    cases rw'
    obtain ⟨vs, e1, e2, e3⟩ := G2.st.cellAt (List.mem_of_getElem? hk)
    obtain ⟨us, f1, f2, f3⟩ := G2.st.cellAt (List.mem_of_getElem? hj)
    refine ⟨q, b, vs, us, rfl, rfl, e1, f1, by rw [e3.length, f3.length]; exact hl, ?_⟩
    exact ret (G2.st.setCell (c' := .lst (ds ++ es)) hk ⟨vs ++ us, upd_same, e3.append f3⟩) (s1.trans s2) .non hq
end

abbrev TSp := List D → Cells → (D → Cells → Prop) → (Ex → Cells → Prop) → Prop
def spG (K : PySem.W.Frag) (T : TSp) : Sp := fun vs H Q E => ∃ F M ds, Stt K F M [] [] H ∧ Reps K F vs ds ∧
  T ds M (fun d M' => ∀ v F' H', Same F F' → Stt K F' M' [] [] H' → Rep K F' v d → Q v H') (fun x M' => ∀ cls d F' H', Same F F' → Stt K F' M' [] [] H' → ExIs K F' H' cls d x → E cls d H')
def startD (N : List Str) (ds : List D) : Slots := ds.map some ++ List.replicate (N.length - ds.length) none
theorem Stt.start {K : PySem.W.Frag} {F : Hp} {M : Cells} {H : Hp} (S : Stt K F M [] [] H) {N : List Str} {vs : List V} {ds : List D} (r : Reps K F vs ds) : Stt K F M (startD N ds) (L2.start N vs) H := by
  refine S.slots (by simp [startD, L2.start, r.length]) fun i d h => ?_
  unfold startD at h
  by_cases hi : i < ds.length
  · rw [List.getElem?_append_left (by simpa using hi), List.getElem?_map] at h
    cases e : ds[i]? with
    | none => rw [e] at h; cases h
    | some z =>
      rw [e] at h
      obtain ⟨v, h1, h2⟩ := r.get e
      cases h
      refine ⟨v, ?_, h2⟩
      unfold L2.start
      rw [List.getElem?_append_left (by simpa [r.length] using hi), List.getElem?_map, h1]; rfl
  · rw [List.getElem?_append_right (by simpa using hi), List.getElem?_replicate] at h
    split at h <;> cases h
theorem Stt.bare {K : PySem.W.Frag} {F : Hp} {M : Cells} {δ : Slots} {σ : L2.St} {H : Hp} (S : Stt K F M δ σ H) : Stt K F M [] [] H := S.slots rfl fun i d h => by simp at h
/-- the answer's wish may be weakened -/
def Mono (T : TSp) : Prop := ∀ ds M Q Q' E E', (∀ d M', Q d M' → Q' d M') → (∀ x M', E x M' → E' x M') → T ds M Q E → T ds M Q' E'
/-- a def known by its name -/
structure FD (P : Program) (w : World) (K : PySem.W.Frag) (mg : Str → Option Value) (base : Heap) (k : Nat) (x : Str) (n : Nat) (T : TSp) : Prop where
  mono : Mono T
  ex : ∃ f fd ps, mg x = some (.ref f) ∧ PySem.W.keepIn K (.ref f) = true ∧ ps.length = n ∧ Binds K fd ps [] ∧ FnOk P w K mg base (L2.CX P w) k f fd ps (spG K T)
section
variable {P : Program} {w : World} {K : PySem.W.Frag} {mg : Str → Option Value} {base : Heap}
abbrev cxF (P : Program) (w : World) (K : PySem.W.Frag) (mg : Str → Option Value) (base : Heap) (N : List Str) (qual : Str) (st : Stmt) (f : Addr) (cdv : Value) (A : Around) (outer : List Env) (s : Shared) (H : Hp) (E : XK) : Cx := cxOf (L2.CX P w) P w K mg base N qual (defScope st) f cdv A outer s H E
/-- THE RULE for a def -/
theorem fn_ok {x qual : Str} {st : Stmt} {f : Addr} {fd : FuncData} {N ps : List Str} {k n : Nat} {T : TSp} (Fn : L2.Fun K x qual st f fd) (S : FnScope N ps (defScope st)) (hn : ps.length = n) (len : ∀ ds M Q E, T ds M Q E → ds.length = n)
    (body : ∀ (cdv : Value) (A : Around) (outer : List Env) (s : Shared) (H : Hp) (E : XK), Nice (cxF P w K mg base N qual st f cdv A outer s H E) → Room k (cxF P w K mg base N qual st f cdv A outer s H E).A →
      ∀ ds M (Q : D → Cells → Prop) (X' : Ex → Cells → Prop), T ds M Q X' → WB (cxF P w K mg base N qual st f cdv A outer s H E) (fun x _ M' => X' x M') (defBody st) (startD N ds) M { nx := fun _ M' => Q .non M', rt := Q }) :
    FnOk P w K mg base (L2.CX P w) (k + 1) f fd ps (spG K T) := by
  refine Fn.okX S (fun vs H Q E ⟨F, M, ds, S', r, t⟩ => by rw [r.length, len _ _ _ _ t, hn]) fun cdv A outer s H vs Q E hr h => ?_
  obtain ⟨F, M, ds, S0, r, t⟩ := h
  have tk := takes_of (X := cxF P w K mg base N qual st f cdv A outer s H E) (E := E) rfl rfl rfl rfl
  have N0 : Nice (cxF P w K mg base N qual st f cdv A outer s H E) := ⟨rfl, S.nd, passes_of rfl⟩
  refine ⟨_, pss_sem, (body cdv A outer s H E N0 hr ds M _ _ t _ H F ⟨S0.start r, _, tk, fun cls d σ' H' ⟨F', M', δ', x, s', S', hx, q⟩ => q cls d F' H' s' S'.bare hx⟩).mono ⟨?_, ?_, fun _ _ ⟨_, _, _, _, _, q⟩ => q.elim, fun _ _ ⟨_, _, _, _, _, q⟩ => q.elim⟩⟩
  · rintro σ' H' ⟨F', M', δ', s', S', q⟩
    exact q .non F' H' s' S'.bare .non
  · rintro v H' ⟨F', M', δ', σ', d, s', S', r', q⟩
    exact q v F' H' s' S'.bare r'
theorem fd_ok {x qual : Str} {st : Stmt} {f : Addr} {fd : FuncData} {ps : List Str} {k n : Nat} {T : TSp} (Fn : L2.Fun K x qual st f fd) (hm : mg x = some (.ref f)) (hn : ps.length = n) (hb : Binds K fd ps []) (mono : Mono T) (h : FnOk P w K mg base (L2.CX P w) k f fd ps (spG K T)) : FD P w K mg base k x n T := ⟨mono, f, fd, ps, hm, Fn.kp, hn, hb, h⟩
end
section
variable {X : Cx} {P : XP} {F : Hp} {M : Cells} {δ : Slots} {σ : L2.St} {H : Hp} {e a b c o : Expr} {es : List Expr} {pos apos cpos p p2 : Pos}
/-- f(e, ..) -/
theorem we_call {x : Str} {k n : Nat} {T : TSp} {Q : D → Cells → Prop} (c : FD X.prog X.w X.K X.mg X.base k x n T) (hr : Room k X.A) (hg : Gl X x) (h : WA X P (e :: es) δ M fun ds M1 => T ds M1 Q (fun x M' => P x δ M'))
    (hdb : (x == ("__debug__" : Str)) = false := by decide) (he : starEach (e :: es) X.env = (false, eval e X.env) :: starEach es X.env := by rfl) (hpl : (backTo pos (starEach es X.env)).any (·.1) = false := by rfl) : WE X P (.Call (.Name x p) (e :: es) [] pos) δ M Q := by
  obtain ⟨f, fd, ps, hm, hk, hn, hb, Fo⟩ := c.ex
  intro σ H F G
  obtain ⟨W, tw, hw⟩ := G.tk
  intro pins s I
  refine (pe_callS Fo hr hg hm hk hb (E := fun σ cls d H => W cls d σ H) (fun σ => passAt tw σ) pa_sem hdb he hpl).run pins s σ H _ I ?_
  refine h.go G fun vs H1 F1 M1 ds s1 G1 r1 q1 => ⟨F1, M1, ds, G1.st.bare, r1, c.mono _ _ _ _ _ _ (fun d M' q v F' H' s' S' r' => ?_) (fun y M' q cls d F' H' s' S' hx => ?_) q1⟩
  · exact ret (S'.keep G1.st s') (s1.trans s') r' q
  · exact hw cls d σ H' ⟨F', M', δ, y, s1.trans s', S'.keep G1.st s', hx, q⟩
end
end PW
/-! PW6 -/
namespace PW
open PySem L2 PyProof.Rows
theorem iteD {p : Prop} [Decidable p] {A B : Prop} (h1 : p → A) (h2 : ¬ p → B) : if decide p = true then A else B := by
  by_cases h : p
  · rw [if_pos (decide_eq_true h)]; exact h1 h
  · rw [if_neg (by rw [decide_eq_false h]; decide)]; exact h2 h
theorem iteN {p : Prop} [Decidable p] {A B : Prop} (h1 : ¬ p → A) (h2 : p → B) : if (!decide p) = true then A else B := by
  by_cases h : p
  · rw [if_neg (by rw [decide_eq_true h]; decide)]; exact h2 h
  · rw [if_pos (by rw [decide_eq_false h]; rfl)]; exact h1 h
theorem iteT' {A B : Prop} (h : A) : if true = true then A else B := by rw [if_pos rfl]; exact h
theorem iteF' {A B : Prop} (h : B) : if false = true then A else B := by rw [if_neg (by decide)]; exact h
section
variable {X : Cx} {P : XP} {F : Hp} {M : Cells} {δ : Slots} {σ : L2.St} {H : Hp} {e a b c o : Expr} {es : List Expr} {pos apos cpos p p2 : Pos}
theorem we_globI {x : Str} {i : Int} {Q : D → Cells → Prop} (hg : Gl X x) (hm : ∃ t, X.mg x = some (.int i t)) (h : Q (.int i) M) (hd : (x == ("__debug__" : Str)) = false := by decide) : WE X P (.Name x pos) δ M Q := by
  obtain ⟨t, ht⟩ := hm
  exact we_glob (v := .int i) hg ht ⟨t, rfl⟩ (fun _ _ => .int i) h hd
end
theorem set_get {α : Type} {l : List α} {k : Nat} {x y : α} (h : l[k]? = some y) : (l.set k x)[k]? = some x := List.getElem?_set_self (List.getElem?_eq_some_iff.mp h).1
section
variable {X : Cx} {P : XP} {M : Cells} {δ : Slots} {st : Stmt} {rest : List Stmt} {E : En}
end
theorem room_le {j k : Nat} {A : Around} (h : Room k A) (l : j ≤ k) : Room j A := h.mono l
theorem log2_lt {i : Int} {n : Nat} (h : i.natAbs < 2 ^ n) (hn : 0 < n) : i.natAbs.log2 < n := by
  by_cases e : i.natAbs = 0
  · rw [e]; simpa using hn
  · exact (Nat.log2_lt e).mpr h
theorem intBits_le {i : Int} {n : Nat} (h : i.natAbs < 2 ^ n) : Builtin.Int.intBits i ≤ n := by
  unfold Builtin.Int.intBits
  split
  · omega
  · rename_i h0
    have : i.natAbs ≠ 0 := by intro z; apply h0; simpa using z
    have := (Nat.log2_lt this).mpr h
    omega
end PW
/-! PWS -/
namespace PW
open PySem L2 PyProof.Rows
section
variable {P : Program} {w : World} {A : Around} {E : Value → Shared → Prop} {s : Shared}
end
end PW
namespace PW
open PySem L2 PyProof.Rows
section
variable {X : Cx} {P : XP} {F : Hp} {M : Cells} {δ : Slots} {σ : L2.St} {H : Hp} {e a b c o : Expr} {es : List Expr} {pos apos cpos p p2 q : Pos}
end
end PW
/-! PW7 -/
namespace PW
open PySem L2 PyProof.Rows
section
variable {X : Cx} {P : XP} {F : Hp} {M : Cells} {δ : Slots} {σ : L2.St} {H : Hp} {e a b c o : Expr} {es : List Expr} {pos apos cpos p p2 q : Pos} {kws : List Keyword}
def RIx : RD2 := fun d e M Q => (∃ ds i z, LV M d ds ∧ e = .int i ∧ atI ds i = some z ∧ Q z M) ∨ (∃ ds i z, d = .tup ds ∧ e = .int i ∧ atI ds i = some z ∧ Q z M) ∨ (∃ z i c, d = .str z ∧ e = .int i ∧ z.length ≤ sizeLine ∧ atI z.cps.toList i = some c ∧ Q (.str ⟨#[c]⟩) M)
theorem ixR_or {r r' : R2} (h : IxR X r) (h' : IxR X r') : IxR X (fun x y H Q => r x y H Q ∨ r' x y H Q) := h.or h'
theorem we_ix {Q : D → Cells → Prop} (h : WE X P a δ M fun d M1 => WE X P b δ M1 fun e M2 => RIx d e M2 Q) (hs : PlainIx b) : WE X P (.Subscript a b pos) δ M Q :=
  we_of (pe_ix (ixR_or ix_list (ixR_or ix_tup ix_str)) pe_sem pe_sem hs) fun σ H F G => bind2 (fun _ _ z => z) (lift_ixL.or (lift_ixT.or lift_ixS)) h G
def RSl (d : D) (l u : Option Int) (M : Cells) (Q : D → Cells → Prop) : Prop := (∃ ds, LV M d ds ∧ Q (.lst (cutD ds l u)) M) ∨ ∃ z, d = .str z ∧ z.length ≤ sizeLine ∧ Q (.str (cutS z l u)) M
theorem we_sl {lo hi : Option Expr} {Q : D → Cells → Prop} (h : WE X P e δ M fun d M1 => WO X P lo δ M1 fun l M2 => WO X P hi δ M2 fun u M3 => RSl d l u M3 Q) : WE X P (.Subscript e (.Slice lo hi none p2) pos) δ M Q :=
  we_of (pe_slice (SlR.or sl_list sl_str) pe_sem po_sem po_sem) fun σ H F G => h.go G fun v H1 F1 M1 d s1 G1 r1 q1 => (q1 σ H1 F1 G1).mono fun l H2 ⟨F2, M2, s2, S2, q2⟩ => (q2 σ H2 F2 ⟨S2, G1.tk.up s2⟩).mono fun u H3 ⟨F3, M3, s3, S3, q3⟩ => by
    rcases q3 with ⟨ds, h1, q3⟩ | ⟨z, rfl, hz, q3⟩
    · obtain ⟨a, xs, rfl, e1, e2⟩ := S3.readL (r1.up (s2.trans s3)) h1
      refine .inl ⟨a, xs, rfl, e1, fun p hp => ?_⟩
      obtain ⟨S', s'⟩ := S3.froz (o := .lst (cutV xs l u)) hp
      exact ret S' (((s1.trans s2).trans s3).trans s') (.lst (.of upd_same) ((reps_cut e2 l u).up s')) q3
    · cases r1
      exact .inr ⟨z, rfl, hz, ret S3 ((s1.trans s2).trans s3) (.str _) q3⟩
theorem we_int2 {Q : D → Cells → Prop} (hg : Gl X "int") (hm : X.mg "int" = none) (h : WA X P [e] δ M fun ds M1 => (∃ i, ds = [.int i] ∧ Q (.int i) M1) ∨ (∃ k, ds = [.bl k] ∧ Q (.int (if k then 1 else 0)) M1) ∨ ∃ z n, ds = [.str z] ∧ PySem.intText? z = some n ∧ z.length ≤ 640 ∧ Q (.int n) M1) (he : starEach [e] X.env = (false, eval e X.env) :: starEach [] X.env := by rfl) (hpl : (backTo pos (starEach [] X.env)).any (·.1) = false := by rfl) : WE X P (.Call (.Name "int" p) [e] [] pos) δ M Q :=
  we_callTy (R := fun ds M1 Q => (∃ i, ds = [.int i] ∧ Q (.int i) M1) ∨ (∃ k, ds = [.bl k] ∧ Q (.int (if k then 1 else 0)) M1) ∨ ∃ z n, ds = [.str z] ∧ PySem.intText? z = some n ∧ z.length ≤ 640 ∧ Q (.int n) M1) (call_int1.or call_int_str) (fun k s S r h => by
    rcases h with ⟨i, rfl, q⟩ | ⟨i, rfl, q⟩ | ⟨z, n, rfl, h1, h2, q⟩
    · obtain ⟨v, rfl, r1⟩ := r.one
      cases r1
      exact .inl (.inl ⟨i, rfl, k _ _ (ret S s (.int _) q)⟩)
    · obtain ⟨v, rfl, r1⟩ := r.one
      cases r1
      exact .inl (.inr ⟨i, rfl, k _ _ (ret S s (.int _) q)⟩)
    · obtain ⟨v, rfl, r1⟩ := r.one
      cases r1
      exact .inr ⟨z, n, rfl, h1, h2, k _ _ (ret S s (.int _) q)⟩) hg hm (by decide +kernel) h (by decide) (by decide) he hpl
theorem reps_dOf {K : PySem.W.Frag} : ∀ {xs : List V} {vs : List V}, Reps K F vs (xs.map dOf) → vs = xs
  | [], _, h => by cases h; rfl
  | x :: xs, _, h => by cases h with | cons a b => rw [scal_rep x a rfl, reps_dOf b]
def RIn (neg : Bool) : RD2 := fun d e M Q => (∃ (x : V) (xs : List V), d = dOf x ∧ (LV M e (xs.map dOf) ∨ e = .tup (xs.map dOf)) ∧ flatV x = true ∧ xs.all flatV = true ∧ Q (.bl (if neg then !inV x xs else inV x xs)) M) ∨
  ∃ (c : Nat) (z : Str), d = .str ⟨#[c]⟩ ∧ e = .str z ∧ Q (.bl (if neg then !decide (c ∈ z.cps.toList) else decide (c ∈ z.cps.toList))) M
theorem lift_in {neg : Bool} : Lift2 X (fun x y H Q => rIn X.K neg x y H Q ∨ ∃ (c : Nat) (z : Str), x = .str ⟨#[c]⟩ ∧ y = .str z ∧ Q (.bl (if neg then !decide (c ∈ z.cps.toList) else decide (c ∈ z.cps.toList))) H) (RIn neg) := fun k s S r1 r2 h => by
  rcases h with ⟨x, xs, rfl, hl, h1, h2, q⟩ | ⟨c, z, rfl, rfl, q⟩
  · obtain ⟨a, vs, rfl, e1, e2⟩ := S.readLT r2 hl
    rw [reps_dOf e2] at e1
    rw [scal_rep x r1 rfl]
    exact .inl ⟨a, xs, rfl, e1, h1, h2, k _ _ (ret S s (.bl _) q)⟩
  · cases r1; cases r2
    exact .inr ⟨c, z, rfl, rfl, k _ _ (ret S s (.bl _) q)⟩
theorem op_notInG : OpR X (compareOp .NotIn) (fun x y H Q => rIn X.K true x y H Q ∨ ∃ (c : Nat) (z : Str), x = .str ⟨#[c]⟩ ∧ y = .str z ∧ Q (.bl (if true then !decide (c ∈ z.cps.toList) else decide (c ∈ z.cps.toList))) H) := op_notIn_seq.or op_notIn_sign
theorem wt_notIn {Q : Bool → Cells → Prop} (h : WE X P a δ M fun d M1 => WE X P b δ M1 fun e M2 => RIn true d e M2 (onB Q)) (hmk : behindInMarks .NotIn b = false := by rfl) : WT X P (.Compare a [.NotIn] [b] pos) δ M Q := wt_cmp op_notInG lift_in hmk h
def REq (neg : Bool) : RD2 := fun d e M Q => RScal neg d e M Q ∨ ∃ p q, PV M d p ∧ PV M e q ∧ SeqAt.shaped p = true ∧ SeqAt.shaped q = true ∧ Q (.bl (if neg then !PyData.eqv p q else PyData.eqv p q)) M
theorem we_eq {Q : D → Cells → Prop} (hu : X.A.units + 64 < cLine) (h : WE X P a δ M fun d M1 => WE X P b δ M1 fun e M2 => REq false d e M2 Q) : WE X P (.Compare a [.Eq] [b] pos) δ M Q := we_cmp (op_eq.or (op_eqD hu)) (lift_eqS.or lift_eqD) (nomark _) h
theorem we_ne {Q : D → Cells → Prop} (hu : X.A.units + 64 < cLine) (h : WE X P a δ M fun d M1 => WE X P b δ M1 fun e M2 => REq true d e M2 Q) : WE X P (.Compare a [.NotEq] [b] pos) δ M Q := we_cmp (op_ne.or (op_neD hu)) (lift_neS.or lift_neD) (nomark _) h
theorem wt_eq {Q : Bool → Cells → Prop} (hu : X.A.units + 64 < cLine) (h : WE X P a δ M fun d M1 => WE X P b δ M1 fun e M2 => REq false d e M2 (onB Q)) : WT X P (.Compare a [.Eq] [b] pos) δ M Q := wt_cmp (op_eq.or (op_eqD hu)) (lift_eqS.or lift_eqD) (nomark _) h
theorem wt_ne {Q : Bool → Cells → Prop} (hu : X.A.units + 64 < cLine) (h : WE X P a δ M fun d M1 => WE X P b δ M1 fun e M2 => REq true d e M2 (onB Q)) : WT X P (.Compare a [.NotEq] [b] pos) δ M Q := wt_cmp (op_ne.or (op_neD hu)) (lift_neS.or lift_neD) (nomark _) h
def tK (X : Cx) (kws : List Keyword) : TA := fun σ H Q => ∀ (pos : Pos) pins s, Inv X pins σ H s → wpAny (model X.prog X.w) X.A (evalAll ((backToKw pos (keywordEach kws X.env)).map (·.2))) (AP X pins σ Q) X.xe s
theorem pk_sem : PK X kws (tK X kws) := ⟨fun pos pins s _ _ _ I h => h pos pins s I⟩
def WK (X : Cx) (P : XP) (kws : List Keyword) (δ : Slots) (M : Cells) (Q : List D → Cells → Prop) : Prop := ∀ σ H F, Go X P F M δ σ H → tK X kws σ H (upA X.K F δ σ Q)
theorem tK.mono {Q Q' : List V → Hp → Prop} (h : tK X kws σ H Q) (k : ∀ v H', Q v H' → Q' v H') : tK X kws σ H Q' := fun pos pins s I => thn (h pos pins s I) fun _ _ ⟨vs, H', I', r, q⟩ => ⟨vs, H', I', r, k _ _ q⟩
theorem wk_nil {Q : List D → Cells → Prop} (h : Q [] M) : WK X P [] δ M Q := fun σ H F G pos pins s I => pk_nil.run pos pins s σ H _ I ⟨F, M, [], Same.refl _, G.st, .nil, h⟩
theorem wk_cons {nm : Option Str} {kpos : Pos} {Q : List D → Cells → Prop} (h : WE X P e δ M fun d M1 => WK X P kws δ M1 fun ds M2 => Q (d :: ds) M2) : WK X P (⟨nm, e, kpos⟩ :: kws) δ M Q := fun σ H F G pos pins s I =>
  (pk_cons pe_sem pk_sem).run pos pins s σ H _ I (h.go G fun v H1 F1 M1 d s1 G1 r1 q1 => (q1 σ H1 F1 G1).mono fun vs H2 ⟨F2, M2, ds, s2, S2, r2, q2⟩ => ⟨F2, M2, d :: ds, s1.trans s2, S2, .cons (r1.up s2) r2, q2⟩)
/-- m positional values, n by keyword, put in the order pi -/
def gp {α : Type} (m n : Nat) (pi : List Nat) (us ws : List α) : List α := if us.length = m ∧ ws.length = n then pi.filterMap ((us ++ ws)[·]?) else []
theorem prd_app {α β : Type} {R : α → β → Prop} : ∀ {a : List α} {b : List β} {c : List α} {d : List β}, Paired R a b → Paired R c d → Paired R (a ++ c) (b ++ d)
  | _, _, _, _, .nil, h => h
  | _, _, _, _, .cons r t, h => .cons r (prd_app t h)
theorem prd_none {α β : Type} {R : α → β → Prop} : ∀ {a : List α} {b : List β} {i : Nat}, Paired R a b → a[i]? = none → b[i]? = none
  | _, _, _, .nil, _ => by simp
  | _, _, 0, .cons r t, h => by simp at h
  | _, _, i + 1, .cons r t, h => by simpa using prd_none (i := i) t (by simpa using h)
theorem prd_some {α β : Type} {R : α → β → Prop} {v : α} : ∀ {a : List α} {b : List β} {i : Nat}, Paired R a b → a[i]? = some v → ∃ u, b[i]? = some u ∧ R v u
  | _, _, _, .nil, h => by simp at h
  | _, _, 0, .cons r t, h => by simp at h; subst h; exact ⟨_, by simp, r⟩
  | _, _, i + 1, .cons r t, h => by obtain ⟨u, h1, h2⟩ := prd_some (i := i) t (by simpa using h); exact ⟨u, by simpa using h1, h2⟩
theorem gp_rel {α β : Type} {R : α → β → Prop} (m n : Nat) (pi : List Nat) {vs zs : List α} {us ws : List β} (r : Paired R vs us) (r2 : Paired R zs ws) : Paired R (gp m n pi vs zs) (gp m n pi us ws) := by
  unfold gp
  rw [r.length, r2.length]
  split
  · have ra := prd_app r r2
    induction pi with
    | nil => exact .nil
    | cons i pi ih =>
      rcases h1 : (vs ++ zs)[i]? with _ | v
      · rw [List.filterMap_cons, List.filterMap_cons, h1, prd_none ra h1]
        exact ih
      · obtain ⟨u, h2, hr⟩ := prd_some ra h1
        rw [List.filterMap_cons, List.filterMap_cons, h1, h2]
        exact .cons hr ih
  · exact .nil
theorem gp_reps {K : PySem.W.Frag} (m n : Nat) (pi : List Nat) : ∀ {vs zs : List V} {ds es : List D}, Reps K F vs ds → Reps K F zs es → Reps K F (gp m n pi vs zs) (gp m n pi ds es) := fun {vs zs ds es} r r2 => by
  unfold gp
  rw [r.length, r2.length]
  split
  · induction pi with
    | nil => exact .nil
    | cons i pi ih =>
      have ra := r.append r2
      rcases h1 : (ds ++ es)[i]? with _ | v
      · have h2 : (vs ++ zs)[i]? = none := by
          rw [List.getElem?_eq_none_iff] at h1 ⊢
          rw [ra.length]; exact h1
        rw [List.filterMap_cons, List.filterMap_cons, h1, h2]
        exact ih
      · obtain ⟨u, h2, hr⟩ := ra.get h1
        rw [List.filterMap_cons, List.filterMap_cons, h1, h2]
        exact .cons hr ih
  · exact .nil
/-- a def known by its name, called with keywords ks behind m positional values -/
structure FDK (P : Program) (w : World) (K : PySem.W.Frag) (mg : Str → Option Value) (base : Heap) (k : Nat) (x : Str) (m : Nat) (ks : List Str) (pi : List Nat) (T : TSp) : Prop where
  mono : Mono T
  ex : ∃ f fd ps, mg x = some (.ref f) ∧ PySem.W.keepIn K (.ref f) = true ∧ KBinds K fd ps ks (gp m ks.length pi) (gp m ks.length pi) ∧ FnOk P w K mg base (L2.CX P w) k f fd ps (spG K T)
theorem run_kwS {CX : CXT} {k : Nat} {f : Addr} {fd : FuncData} {ps ks : List Str} {sp : Sp} {E : L2.St → XK} {g : List Value → List Value → List Value} {gV : List V → List V → List V} {pins : List (Addr × Obj)} {s : Shared} {Q : VK} {us ws : List Value} {vs zs : List V}
    (Fo : FnOk X.prog X.w X.K X.mg X.base CX k f fd ps sp) (hr : Room k X.A) (hb : KBinds X.K fd ps ks g gV) (hx : PassesAt CX X σ (E σ))
    (I : Inv X pins σ H s) (r : Vals vs us) (rz : Vals zs ws) (h : sp (gV vs zs) H Q (E σ)) : wpAny (model X.prog X.w) X.A (call (.ref f) us (ks.zip ws)) (EP X pins σ Q) X.xe s := by
  have r2 := hb.rel r rz
  have hl : (g us ws).length = ps.length := by rw [← r2.length]; exact Fo.len _ _ _ _ h
  refine wpAny_call (codeAny_mono (Fo.run X.A X.stack s H ⟨us, ks.zip ws⟩ (g us ws) (gV vs zs) Q (E σ) hr I.env0 (hb.to s us ws I.kIn hl) r2 h) fun r s' hq => ?_)
  cases r with
  | error e => exact hx pins H s e s' I hq
  | ok fl =>
    cases fl with
    | ret u => exact I.after hq
    | next => exact False.elim hq
    | brk => exact False.elim hq
    | cont => exact False.elim hq
theorem kw_end {f : Addr} {fd : FuncData} {ps ks : List Str} {k : Nat} {m : Nat} {pi : List Nat} {T : TSp} {W : WX} {Q : D → Cells → Prop} {F0 F1 : Hp} {M1 : Cells} {H1 : Hp} {vs zs : List V} {ds es : List D} (mono : Mono T) (tk : ∀ cls d σ' H', upX X.K F0 P cls d σ' H' → W cls d σ' H')
    (s1 : Same F0 F1) (S1 : Stt X.K F1 M1 δ σ H1) (r : Reps X.K F1 vs ds) (r2 : Reps X.K F1 zs es) (q1 : T (gp m ks.length pi ds es) M1 Q (fun x M' => P x δ M')) :
    spG X.K T (gp m ks.length pi vs zs) H1 (upE X.K F0 δ σ Q) (L2.WE W σ) :=
  ⟨F1, M1, _, S1.bare, gp_reps m ks.length pi r r2, mono _ _ _ _ _ _ (fun d M' q v F' H' s' S' r' => ret (S'.keep S1 s') (s1.trans s') r' q)
    (fun y M' q cls d F' H' s' S' hx => tk cls d σ H' ⟨F', M', δ, y, s1.trans s', S'.keep S1 s', hx, q⟩) q1⟩
/-- f(k = e, ..) -/
theorem we_callK0 {x : Str} {k : Nat} {ks : List Str} {pi : List Nat} {T : TSp} {Q : D → Cells → Prop} (c : FDK X.prog X.w X.K X.mg X.base k x 0 ks pi T) (hr : Room k X.A) (hg : Gl X x) (h : WK X P kws δ M fun ds M1 => T (gp 0 ks.length pi [] ds) M1 Q (fun x M' => P x δ M'))
    (hall : (backToKw pos (keywordEach kws X.env)).all (·.1.isSome) = true := by rfl) (hks : (backToKw pos (keywordEach kws X.env)).filterMap (·.1) = ks := by rfl) (hdb : (x == ("__debug__" : Str)) = false := by decide)
    (hpl : ((backTo pos (starEach [] X.env)).any (·.1) || (backToKw pos (keywordEach kws X.env)).any (·.1.isNone)) = false := by rfl) : WE X P (.Call (.Name x p) [] kws pos) δ M Q := by
  obtain ⟨f, fd, ps, hm, hk, hb, Fo⟩ := c.ex
  intro σ H F G
  obtain ⟨W, tw, hw⟩ := G.tk
  intro pins s I
  refine wpAny_Call_Name_kw (ld_glob I hg hm ?_ hdb)
  refine PySem.W.callWith_KW0 (h₀ := X.base) I.ok.mod.kin hk hall (thn (h σ H F G pos pins _ (I.tok _)) fun ws s2 ⟨zs, H2, I2, rz, F1, M1, ds, s1, S1, r1, q1⟩ => ⟨I2.kIn, ?_⟩) hpl
  rw [hks]
  exact run_kwS (us := []) (vs := []) Fo hr hb (passAt tw σ) I2 .nil rz (kw_end (f := f) (fd := fd) (ps := ps) (k := k) c.mono hw s1 S1 .nil r1 q1)
end
section
variable {P : Program} {w : World} {K : PySem.W.Frag} {mg : Str → Option Value} {base : Heap}
theorem gp_len {α : Type} {m n : Nat} {pi : List Nat} {us ws : List α} (h : gp m n pi us ws ≠ []) : us.length = m ∧ ws.length = n := by
  unfold gp at h
  split at h
  · assumption
  · exact absurd rfl h
/-- a def by its name, called with keywords -/
theorem fdk_ok {x qual : Str} {st : Stmt} {f : Addr} {fd : FuncData} {ps ks : List Str} {k m : Nat} {pi : List Nat} {T : TSp} (Fn : L2.Fun K x qual st f fd) (hm : mg x = some (.ref f)) (hp : ps ≠ [])
    (hb : ∀ (kV doc pm : Value) (an : Option Addr) (cdv ct : Value) (us ws : List Value), us.length = m → ws.length = ks.length → bindArgs (PySem.W.fnOf x qual (defArgs st) (defBody st) (defScope st) .none kV doc pm an cdv ct) ⟨us, ks.zip ws⟩ = pure (ps.zip (gp m ks.length pi us ws)))
    (mono : Mono T) (h : FnOk P w K mg base (L2.CX P w) k f fd ps (spG K T)) : FDK P w K mg base k x m ks pi T := by
  refine ⟨mono, f, fd, ps, hm, Fn.kp, ⟨fun s us ws X hl => ?_, fun r r2 => gp_rel m ks.length pi r r2⟩, h⟩
  obtain ⟨oc, od, kV, doc, pm, an, cdv, ct, osl, rfl, lk, hcd⟩ := Fn.ex
  have e : gp m ks.length pi us ws ≠ [] := fun z => by
    rw [z] at hl
    cases ps with
    | nil => exact hp rfl
    | cons _ _ => simp at hl
  exact .of_eq (hb kV doc pm an cdv ct us ws (gp_len e).1 (gp_len e).2)
end
end PW
/-! PW8 -/
namespace PW
open PySem L2 PyProof.Rows
section
variable {M : Cells} {Q : D → Cells → Prop} {d : D} {ds : List D} {z : D}
theorem iteP {b : Bool} {A B : Prop} (hb : b = true) (h : A) : if b = true then A else B := by rw [if_pos hb]; exact h
theorem iteQ {b : Bool} {A B : Prop} (hb : b = false) (h : B) : if b = true then A else B := by rw [if_neg (by rw [hb]; decide)]; exact h
theorem req_i {i j : Int} (h : Q (.bl (decide (i = j))) M) : REq false (.int i) (.int j) M Q := .inl ⟨.int i, .int j, rfl, rfl, rfl, by
  have e : decide (V.int i = V.int j) = decide (i = j) := by simp
  rw [if_neg (by decide), e]; exact h⟩
theorem req_iN {i j : Int} (h : Q (.bl (!decide (i = j))) M) : REq true (.int i) (.int j) M Q := .inl ⟨.int i, .int j, rfl, rfl, rfl, by
  have e : decide (V.int i = V.int j) = decide (i = j) := by simp
  rw [if_pos rfl, e]; exact h⟩
theorem req_sN {i j : Str} (h : Q (.bl (!decide (i = j))) M) : REq true (.str i) (.str j) M Q := .inl ⟨.str i, .str j, rfl, rfl, rfl, by
  have e : decide (V.str i = V.str j) = decide (i = j) := by simp
  rw [if_pos rfl, e]; exact h⟩
theorem req_d {d e : D} {p q : PyData} (h1 : PV M d p) (h2 : PV M e q) (s1 : SeqAt.shaped p = true) (s2 : SeqAt.shaped q = true) (h : Q (.bl (PyData.eqv p q)) M) : REq false d e M Q := .inr ⟨p, q, h1, h2, s1, s2, by rw [if_neg (by decide)]; exact h⟩
theorem req_dN {d e : D} {p q : PyData} (h1 : PV M d p) (h2 : PV M e q) (s1 : SeqAt.shaped p = true) (s2 : SeqAt.shaped q = true) (h : Q (.bl (!PyData.eqv p q)) M) : REq true d e M Q := .inr ⟨p, q, h1, h2, s1, s2, by rw [if_pos rfl]; exact h⟩
theorem isi1 {t n : String} {b : Bool} (ht : TyA M d t) (hn : n ∈ ["bool", "int", "str", "tuple", "list", "dict"]) (hb : isT t n = b) (q : Q (.bl b) M) : RIsi [d, .raw (.ty n)] M Q ∨ RIsiT [d, .raw (.ty n)] M Q := .inl ⟨d, t, n, rfl, ht, hn, by rw [hb]; exact q⟩
theorem nr_non {A : Prop} (h : A) : (∀ v, D.non ≠ D.raw v) ∧ A := ⟨fun v e => (by cases e), h⟩
theorem nr_tup {A : Prop} (h : A) : (∀ v, D.tup ds ≠ D.raw v) ∧ A := ⟨fun v e => (by cases e), h⟩
def CL (M : Cells) (b : Addr) (R : List D → (List D → Cells) → Prop) : Prop := ∃ (k : Nat) (ds : List D), M[k]? = some (b, .lst ds) ∧ R ds (fun ds' => M.set k (b, .lst ds'))
theorem cl_k {b : Addr} {R : List D → (List D → Cells) → Prop} {k : Nat} {ds : List D} (h : M[k]? = some (b, .lst ds)) (r : R ds (fun ds' => M.set k (b, .lst ds'))) : CL M b R := ⟨k, ds, h, r⟩
theorem cl_set {b : Addr} {R : List D → (List D → Cells) → Prop} {k : Nat} {ds : List D} {c : Addr × Cell} (h : M[k]? = some c) (r : R ds (fun ds' => M.set k (b, .lst ds'))) : CL (M.set k (b, .lst ds)) b R := ⟨k, ds, set_get h, by
  have e : (fun ds' => (M.set k (b, Cell.lst ds)).set k (b, Cell.lst ds')) = fun ds' => M.set k (b, Cell.lst ds') := by funext ds'; exact List.set_set ..
  rw [e]; exact r⟩
theorem cl_0 {b : Addr} {R : List D → (List D → Cells) → Prop} {ds : List D} (r : R ds (fun ds' => (b, .lst ds') :: M)) : CL ((b, .lst ds) :: M) b R := ⟨0, ds, rfl, r⟩
theorem cl_skip {b : Addr} {R : List D → (List D → Cells) → Prop} {p : Addr × Cell} (r : CL M b fun ds f => R ds (fun ds' => p :: f ds')) : CL (p :: M) b R := let ⟨k, ds, h, r⟩ := r; ⟨k + 1, ds, h, r⟩
theorem rix_cl {b : Addr} {i : Int} (h : CL M b fun ds _ => ∃ z, atI ds i = some z ∧ Q z M) : RIx (.cel b) (.int i) M Q := let ⟨k, ds, h1, z, h2, h3⟩ := h; .inl ⟨ds, i, z, .c k h1, rfl, h2, h3⟩
theorem rix_l {i : Int} (h : ∃ z, atI ds i = some z ∧ Q z M) : RIx (.lst ds) (.int i) M Q := let ⟨z, h2, h3⟩ := h; .inl ⟨ds, i, z, .l, rfl, h2, h3⟩
theorem rix_t {i : Int} (h : ∃ z, atI ds i = some z ∧ Q z M) : RIx (.tup ds) (.int i) M Q := let ⟨z, h2, h3⟩ := h; .inr (.inl ⟨ds, i, z, rfl, rfl, h2, h3⟩)
theorem rlen_cl {b : Addr} (h : CL M b fun ds _ => Q (.int ds.length) M) : RLen [.cel b] M Q := let ⟨k, ds, h1, h2⟩ := h; .inl ⟨_, ds, rfl, .c k h1, h2⟩
theorem wgs_cl {b : Addr} {i : Int} {R : Cells → Prop} (h : CL M b fun ds f => ∃ j, ixN ds.length i = some j ∧ R (f (ds.set j d))) :
    ∃ k q ds z j, D.cel b = .cel q ∧ M[k]? = some (q, .lst ds) ∧ D.int i = .int z ∧ ixN ds.length z = some j ∧ R (M.set k (q, .lst (ds.set j d))) := let ⟨k, ds, h1, j, h2, h3⟩ := h; ⟨k, b, ds, i, j, rfl, h1, rfl, h2, h3⟩
theorem app_cl {b : Addr} {y : D} {R : Cells → Prop} (h : CL M b fun ds f => ds.length < sizeLine ∧ R (f (ds ++ [y]))) :
    ∃ (y' : D) (k : Nat) (ds : List D), [y] = [y'] ∧ M[k]? = some (b, .lst ds) ∧ ds.length < sizeLine ∧ R (M.set k (b, .lst (ds ++ [y']))) := let ⟨k, ds, h1, h2, h3⟩ := h; ⟨y, k, ds, rfl, h1, h2, h3⟩
theorem app0_cl {b : Addr} {R : Addr → Prop} (h : CL M b fun _ _ => True) (r : R b) : ∃ q, D.cel b = .cel q ∧ (∃ (k : Nat) (ds : List D), M[k]? = some (q, .lst ds)) ∧ R q := let ⟨k, ds, h1, _⟩ := h; ⟨b, rfl, ⟨k, ds, h1⟩, r⟩
theorem LV.cons {p : Addr × Cell} (h : LV M d ds) : LV (p :: M) d ds := h.elim .inl fun ⟨k, a, h1, h2⟩ => .inr ⟨k + 1, a, h1, h2⟩
theorem LV.ty (h : LV M d ds) : TyA M d "list" := by
  rcases h with rfl | ⟨k, a, rfl, h⟩
  · exact (rfl : "list" = "list")
  · show "list" = "list" ∧ ∃ (k : Nat) (ds : List D), M[k]? = some (a, .lst ds)
    exact ⟨rfl, k, ds, h⟩
def Sq (M : Cells) (d : D) (t : String) (ds : List D) : Prop := (t = "list" ∧ LV M d ds) ∨ (t = "tuple" ∧ d = .tup ds)
theorem Sq.len {t : String} (h : Sq M d t ds) (q : Q (.int ds.length) M) : RLen [d] M Q := by
  rcases h with ⟨rfl, h⟩ | ⟨rfl, rfl⟩
  · exact .inl ⟨d, ds, rfl, h, q⟩
  · exact .inr (.inl ⟨ds, rfl, q⟩)
theorem Sq.ix {t : String} {i : Int} (h : Sq M d t ds) (hz : atI ds i = some z) (q : Q z M) : RIx d (.int i) M Q := by
  rcases h with ⟨rfl, h⟩ | ⟨rfl, rfl⟩
  · exact .inl ⟨ds, i, z, h, rfl, hz, q⟩
  · exact .inr (.inl ⟨ds, i, z, rfl, rfl, hz, q⟩)
end
section
variable {X : Cx} {P : XP} {F : Hp} {M : Cells} {δ : Slots} {σ : L2.St} {H : Hp} {e a b c o : Expr} {es : List Expr} {pos apos cpos p p2 q : Pos}
theorem wt_lele {Q : Bool → Cells → Prop} (h : WE X P a δ M fun d M1 => WE X P b δ M1 fun e M2 => ∃ i j, d = .int i ∧ e = .int j ∧ if decide (i ≤ j) = true then WE X P c δ M2 fun f M3 => ∃ l, f = .int l ∧ Q (decide (j ≤ l)) M3 else Q false M2)
    (hm : lastMarks [.LtE, .LtE] [b, c] = false := by with_unfolding_all rfl) : WT X P (.Compare a [.LtE, .LtE] [b, c] pos) δ M Q :=
  wt_chain op_le op_le lift_B0 lift_B0 (h.imp fun d M1 q => q.imp fun e M2 ⟨i, j, h1, h2, q⟩ => ⟨i, j, h1, h2, _, rfl, by
    split at q
    · rename_i hc; rw [if_pos hc]; exact q.imp fun f M3 ⟨l, h3, q⟩ => ⟨j, l, h2, h3, _, rfl, q⟩
    · rename_i hc; rw [if_neg hc]; exact ⟨_, rfl, q⟩⟩) hm
end
end PW
/-! PW9 -/
namespace PW
open PySem L2 PyProof.Rows
section
variable {X : Cx} {P : XP} {F : Hp} {M : Cells} {δ : Slots} {σ : L2.St} {H : Hp} {e a b c o : Expr} {es : List Expr} {pos apos cpos p p1 p2 q : Pos} {E : En}
/-- an expression that makes an exception, read at the layer -/
def WM (X : Cx) (P : XP) (e : Expr) (δ : Slots) (M : Cells) (R : Ex → Cells → Prop) : Prop :=
  ∃ t : L2.St → Hp → XK → Prop, PMk X e t ∧ ∀ σ H F, Go X P F M δ σ H → ∀ Q : XK, (∀ cls d H' F' M' x, Same F F' → Stt X.K F' M' δ σ H' → ExIs X.K F' H' cls d x → R x M' → Q cls d H') → t σ H Q
theorem ws_raise (N : Nice X) (h : WM X P e δ M fun x M' => P x δ M') : WS X P (.Raise (some e) none pos) δ M E := by
  obtain ⟨t, mk, h⟩ := h
  intro σ H F G
  obtain ⟨W, tw, hw⟩ := G.tk
  intro pins s I
  refine (ps_raise N.calm tw mk).run pins s σ H _ I (h σ H F G _ fun cls d H' F' M' x s' S' hx q => ?_)
  exact hw cls d σ H' ⟨F', M', δ, x, s', S', hx, q⟩
/-- BASE.__init__(self, ..), BASE an own class that has none and so its base's, which is ValueError's -/
theorem pe_base_init {C0 : Addr} {x : Str} {mc : Value} {pl : Sem Bool} {ta : TA} (hg : Gl X x) (hm : X.mg x = some (.ref C0)) (ga : PySem.W.specialIn X.K (.ref C0) "__getattribute__" = some (some (.builtin "type.__getattribute__")))
    (rd : PySem.W.readsIn X.K C0 mc = true) (vV : PySem.W.findCls X.K (.ref C0) mc "__init__" = some (.val (.builtin "ValueError.__init__"))) (ha : PA X (e :: es) ta)
    (hc : eval (.Call (.Attribute (.Name x p1) "__init__" p2) (e :: es) [] pos) X.env = (do
      let ov ← eval (.Name x p1) X.env
      standAt p2.atName
      let (f, first) ← holding [ov] (getMethod ov "__init__" pl)
      callWith pos f first (backTo pos (starEach (e :: es) X.env)) (backToKw pos (keywordEach [] X.env))) := by rfl)
    (he : starEach (e :: es) X.env = (false, eval e X.env) :: starEach es X.env := by rfl) (hpl : (backTo pos (starEach es X.env)).any (·.1) = false := by rfl) (hdb : (x == ("__debug__" : Str)) = false := by decide) :
    PE X (.Call (.Attribute (.Name x p1) "__init__" p2) (e :: es) [] pos) (tVeI X.K ta) := by
  constructor
  intro pins s σ H Q I h
  refine PySem.W.methodCall_KW (ld_glob I hg hm ?_ hdb) hc
  refine PySem.W.method_cls I.kIn ga (PySem.W.cls_value I.kIn rd vV (by decide +kernel) ?_)
  show wpAny _ _ (callWith pos (Value.builtin "ValueError.__init__") [] (backTo pos (starEach (e :: es) X.env)) []) _ _ _
  refine PyProof.Rows.callWith_method1 (thn (ha.run pos pins _ σ H _ (I.tok _) h) fun us s1 hus => ?_) he hpl
  obtain ⟨vs, H1, I1, rv, a, C, ws, ev, hl, T, ea, hQ⟩ := hus
  subst ev
  match us, rv with
  | u0 :: ur, .cons ra rw' =>
    obtain rfl : u0 = Value.ref a := ra
    have fits : ur.length ≤ sizeLine := by rw [← Paired.length rw', sizeLine_eq]; omega
    exact oinit_ok T I1 ea fits fun s' J => ⟨.non, H1, J, rfl, hQ⟩
theorem we_lele {Q : D → Cells → Prop} (h : WE X P a δ M fun d M1 => WE X P b δ M1 fun e M2 => ∃ i j, d = .int i ∧ e = .int j ∧ if decide (i ≤ j) = true then WE X P c δ M2 fun f M3 => ∃ l, f = .int l ∧ Q (.bl (decide (j ≤ l))) M3 else Q (.bl false) M2)
    (hm : lastMarks [.LtE, .LtE] [b, c] = false := by with_unfolding_all rfl) : WE X P (.Compare a [.LtE, .LtE] [b, c] pos) δ M Q :=
  we_chain op_le op_le lift_B0 lift_B0 (h.imp fun d M1 q => q.imp fun e M2 ⟨i, j, h1, h2, q⟩ => ⟨i, j, h1, h2, _, rfl, by
    split at q
    · rename_i hc; rw [if_pos hc]; exact q.imp fun f M3 ⟨l, h3, q⟩ => ⟨j, l, h2, h3, q⟩
    · rename_i hc; rw [if_neg hc]; exact q⟩) hm
end
end PW
/-! PWGd -/
namespace PW
open PySem L2 PyProof.Rows
section
variable {X : Cx} {P : XP} {F : Hp} {M : Cells} {δ : Slots} {σ : L2.St} {H : Hp} {e a b c o : Expr} {es : List Expr} {ks : List Keyword} {pos apos cpos p p1 p2 q : Pos} {E : En} {Q : D → Cells → Prop}
theorem gENm {x : Str} (h : WE X P (.Name x p) δ M Q) : WE X P (.Name x p) δ M Q := h
theorem gECn {k : Const} {j} (h : WE X P (.Constant k j p) δ M Q) : WE X P (.Constant k j p) δ M Q := h
theorem gECl (h : WE X P (.Call a es ks p) δ M Q) : WE X P (.Call a es ks p) δ M Q := h
theorem gECm {ops : List CmpOp} (h : WE X P (.Compare a ops es p) δ M Q) : WE X P (.Compare a ops es p) δ M Q := h
theorem gEBi {op : Operator} (h : WE X P (.BinOp a op b p) δ M Q) : WE X P (.BinOp a op b p) δ M Q := h
theorem gESu {j} (h : WE X P (.Subscript a b j) δ M Q) : WE X P (.Subscript a b j) δ M Q := h
theorem gEBo {op : BoolOp} (h : WE X P (.BoolOp op es p) δ M Q) : WE X P (.BoolOp op es p) δ M Q := h
theorem gTCm {ops : List CmpOp} {Q : Bool → Cells → Prop} (h : WT X P (.Compare a ops es p) δ M Q) : WT X P (.Compare a ops es p) δ M Q := h
/-- the name x, a call of x, x set, x a target -/
theorem gN (x : Str) (h : WE X P (.Name x p) δ M Q) : WE X P (.Name x p) δ M Q := h
theorem gC (x : Str) (h : WE X P (.Call (.Name x p) es ks q) δ M Q) : WE X P (.Call (.Name x p) es ks q) δ M Q := h
theorem gCK (x : Str) (h : WE X P (.Call (.Name x p) es [] q) δ M Q) : WE X P (.Call (.Name x p) es [] q) δ M Q := h
theorem gS (x : Str) (h : WS X P (.Assign [.Name x p] e q) δ M E) : WS X P (.Assign [.Name x p] e q) δ M E := h
theorem gG (x : Str) {d : D} {Q : Slots → Cells → Prop} (h : WG X P (.Name x p) d δ M Q) : WG X P (.Name x p) d δ M Q := h
theorem we_nm (i : Nat) {x : Str} {d : D} (hN : X.N[i]? = some x) (hd : δ[i]? = some (some d)) (h : Q d M) (hv : Vis X.env.scope x := by first | exact .inl rfl | exact .inr (.inl rfl) | exact .inr (.inr rfl)) (h1 : (x == ("__debug__" : Str)) = false := by decide) (h2 : (x == ("__classdict__" : Str)) = false := by decide) : WE X P (.Name x pos) δ M Q := we_name hN hv hd h h1 h2
theorem ws_st (i : Nat) {x : Str} {pos' : Pos} (h : WE X P e δ M fun d M' => E.nx (δ.set i (some d)) M') (N : Nice X := by assumption) (hi : X.N[i]? = some x := by exact rfl) (hx : Loc X.env.scope x := by first | exact .inl rfl | exact .inr rfl) (hs : swapsWith e (some (.Name x pos')) pos.line X.env = pure false := by rfl) (hf : X.fn x = true ∨ X.env.scope.names.lookup x = some .local := by first | exact .inl rfl | exact .inr rfl | assumption) : WS X P (.Assign [.Name x pos'] e pos) δ M E := ws_set N hi hx h hs hf
theorem wg_nm (i : Nat) {x : Str} {d : D} {Q : Slots → Cells → Prop} (h : Q (δ.set i (some d)) M) (N : Nice X := by assumption) (hi : X.N[i]? = some x := by exact rfl) (hx : Loc X.env.scope x := by first | exact .inl rfl | exact .inr rfl) (hf : X.fn x = true ∨ X.env.scope.names.lookup x = some .local := by first | exact .inl rfl | exact .inr rfl | assumption) : WG X P (.Name x pos) d δ M Q := wg_name N hi hx h hf
theorem we_cl (x : Str) {k n : Nat} {T : TSp} (h : WA X P (e :: es) δ M fun ds M1 => T ds M1 Q (fun x M' => P x δ M')) (c : FD X.prog X.w X.K X.mg X.base k x n T := by assumption) (hr : Room k X.A := by first | assumption | exact room_le (by assumption) (by decide)) (hg : Gl X x := by exact rfl)
    (hdb : (x == ("__debug__" : Str)) = false := by decide) (he : starEach (e :: es) X.env = (false, eval e X.env) :: starEach es X.env := by rfl) (hpl : (backTo pos (starEach es X.env)).any (·.1) = false := by rfl) : WE X P (.Call (.Name x p) (e :: es) [] pos) δ M Q := we_call c hr hg h hdb he hpl
end
end PW
/-! MBin -/
namespace PW
/-- x (x - 1) .. (x - k + 1) -/
def fal (x : Int) : Nat → Int
  | 0 => 1
  | k + 1 => fal x k * (x - (k : Int))
def fac : Nat → Int
  | 0 => 1
  | k + 1 => fac k * ((k : Int) + 1)
theorem fac_pos : ∀ k, 0 < fac k
  | 0 => by decide
  | k + 1 => Int.mul_pos (fac_pos k) (by omega)
theorem fal_left (x : Int) : ∀ k : Nat, fal (x + 1) (k + 1) = (x + 1) * fal x k
  | 0 => by simp [fal]
  | k + 1 => by
    have ih := fal_left x k
    show fal (x + 1) (k + 1) * (x + 1 - ((k + 1 : Nat) : Int)) = (x + 1) * (fal x k * (x - (k : Int)))
    rw [ih, Int.mul_assoc]
    congr 2
    omega
theorem fal_pascal (x : Int) (k : Nat) : fal (x + 1) (k + 1) = fal x (k + 1) + ((k : Int) + 1) * fal x k := by
  rw [fal_left]
  show (x + 1) * fal x k = fal x k * (x - (k : Int)) + ((k : Int) + 1) * fal x k
  rw [Int.mul_comm (fal x k), ← Int.add_mul]
  congr 1
  omega
theorem fal_zero : ∀ k : Nat, fal 0 (k + 1) = 0
  | 0 => by simp [fal]
  | k + 1 => by show fal 0 (k + 1) * _ = 0; rw [fal_zero k, Int.zero_mul]
theorem both_ways {P : Int → Prop} (h0 : P 0) (up : ∀ x, P x → P (x + 1)) (down : ∀ x, P (x + 1) → P x) : ∀ x, P x := by
  have hp : ∀ n : Nat, P (n : Int) := fun n => by
    induction n with
    | zero => exact h0
    | succ n ih => exact up _ ih
  have hn : ∀ n : Nat, P (-(n : Int)) := fun n => by
    induction n with
    | zero => exact h0
    | succ n ih =>
      refine down _ ?_
      rw [show -((n + 1 : Nat) : Int) + 1 = -(n : Int) by omega]
      exact ih
  intro x
  rcases Int.le_total 0 x with h | h
  · rw [show x = ((x.toNat : Nat) : Int) by omega]; exact hp _
  · rw [show x = -(((-x).toNat : Nat) : Int) by omega]; exact hn _
theorem fac_dvd : ∀ (k : Nat) (x : Int), fac k ∣ fal x k
  | 0, _ => Int.one_dvd _
  | k + 1, x => by
    have step : ∀ x, fac (k + 1) ∣ ((k : Int) + 1) * fal x k := fun x => by
      obtain ⟨c, hc⟩ := fac_dvd k x
      exact ⟨c, by rw [hc]; show _ = fac k * ((k : Int) + 1) * c; rw [Int.mul_comm (fac k) ((k : Int) + 1), Int.mul_assoc]⟩
    refine both_ways (P := fun x => fac (k + 1) ∣ fal x (k + 1)) ?_ ?_ ?_ x
    · rw [fal_zero]; exact Int.dvd_zero _
    · intro x h
      rw [fal_pascal]
      exact Int.dvd_add h (step x)
    · intro x h
      rw [fal_pascal] at h
      exact (Int.dvd_add_left (step x)).mp h
def bin (x : Int) (k : Nat) : Int := fal x k / fac k
theorem bin_mul (x : Int) (k : Nat) : fal x k = fac k * bin x k := (Int.mul_ediv_cancel' (fac_dvd k x)).symm
theorem bin_zero (x : Int) : bin x 0 = 1 := by simp [bin, fal, fac]
theorem bin_0 (k : Nat) : bin 0 (k + 1) = 0 := by unfold bin; rw [fal_zero]; exact Int.zero_ediv _
theorem bin_pascal (x : Int) (k : Nat) : bin (x + 1) (k + 1) = bin x (k + 1) + bin x k := by
  refine Int.eq_of_mul_eq_mul_left (Int.ne_of_gt (fac_pos (k + 1))) ?_
  rw [← bin_mul, fal_pascal, Int.mul_add, ← bin_mul, bin_mul x k]
  congr 1
  show ((k : Int) + 1) * (fac k * bin x k) = fac k * ((k : Int) + 1) * bin x k
  rw [Int.mul_comm (fac k) ((k : Int) + 1), Int.mul_assoc]
/-- j C(d, j) = d C(d - 1, j - 1) -/
theorem bin_absorb (d : Int) (j : Nat) : ((j : Int) + 1) * bin d (j + 1) = d * bin (d - 1) j := by
  have h := fal_left (d - 1) j
  rw [show d - 1 + 1 = d by omega, bin_mul, bin_mul (d - 1) j] at h
  refine Int.eq_of_mul_eq_mul_left (Int.ne_of_gt (fac_pos j)) ?_
  have e : fac (j + 1) * bin d (j + 1) = fac j * (((j : Int) + 1) * bin d (j + 1)) := by
    show fac j * ((j : Int) + 1) * bin d (j + 1) = _
    rw [Int.mul_assoc]
  rw [← e, h, ← Int.mul_assoc, ← Int.mul_assoc, Int.mul_comm d]
/-- Vandermonde's sum, the terms from j on: C(d, j + i) C(x, k - i) for i up to k -/
def conv (d x : Int) : Nat → Nat → Int
  | j, 0 => bin d j * bin x 0
  | j, k + 1 => bin d j * bin x (k + 1) + conv d x (j + 1) k
theorem conv_step (d x : Int) : ∀ (k j : Nat), conv (d + 1) x (j + 1) k = conv d x (j + 1) k + conv d x j k
  | 0, j => by
    show bin (d + 1) (j + 1) * bin x 0 = bin d (j + 1) * bin x 0 + bin d j * bin x 0
    rw [bin_pascal, Int.add_mul]
  | k + 1, j => by
    show bin (d + 1) (j + 1) * bin x (k + 1) + conv (d + 1) x (j + 2) k = bin d (j + 1) * bin x (k + 1) + conv d x (j + 2) k + (bin d j * bin x (k + 1) + conv d x (j + 1) k)
    have ih : conv (d + 1) x (j + 2) k = conv d x (j + 2) k + conv d x (j + 1) k := conv_step d x k (j + 1)
    rw [ih, bin_pascal, Int.add_mul]
    omega
theorem conv_up (d x : Int) (k : Nat) : conv (d + 1) x 0 (k + 1) = conv d x 0 (k + 1) + conv d x 0 k := by
  show bin (d + 1) 0 * bin x (k + 1) + conv (d + 1) x 1 k = bin d 0 * bin x (k + 1) + conv d x 1 k + conv d x 0 k
  have ih : conv (d + 1) x 1 k = conv d x 1 k + conv d x 0 k := conv_step d x k 0
  rw [ih, bin_zero, bin_zero]
  omega
theorem conv_0 (x : Int) : ∀ (k j : Nat), conv 0 x (j + 1) k = 0
  | 0, j => by show bin 0 (j + 1) * _ = 0; rw [bin_0, Int.zero_mul]
  | k + 1, j => by show bin 0 (j + 1) * _ + conv 0 x (j + 2) k = 0; rw [bin_0, Int.zero_mul, conv_0 x k (j + 1)]; rfl
theorem vander (x : Int) : ∀ (k : Nat) (d : Int), conv d x 0 k = bin (d + x) k
  | 0, d => by show bin d 0 * bin x 0 = _; rw [bin_zero, bin_zero, bin_zero]; rfl
  | k + 1, d => by
    refine both_ways (P := fun d => conv d x 0 (k + 1) = bin (d + x) (k + 1)) ?_ ?_ ?_ d
    · show bin 0 0 * bin x (k + 1) + conv 0 x 1 k = _
      rw [conv_0, bin_zero, Int.zero_add]
      omega
    · intro d h
      rw [conv_up, h, vander x k d, show d + 1 + x = d + x + 1 by omega, bin_pascal]
    · intro d h
      rw [conv_up, vander x k d, show d + 1 + x = d + x + 1 by omega, bin_pascal] at h
      omega
theorem dvd_term {d W : Int} {j : Nat} (h : ((j : Int) + 1) ∣ W) : d ∣ W * bin d (j + 1) := by
  obtain ⟨m, rfl⟩ := h
  refine ⟨m * bin (d - 1) j, ?_⟩
  rw [Int.mul_comm ((j : Int) + 1) m, Int.mul_assoc, bin_absorb, ← Int.mul_assoc, ← Int.mul_assoc, Int.mul_comm m d]
theorem dvd_conv {d x W : Int} : ∀ (k j : Nat), (∀ i, i ≤ k → ((j + i : Nat) : Int) + 1 ∣ W) → d ∣ W * conv d x (j + 1) k
  | 0, j, h => by
    show d ∣ W * (bin d (j + 1) * bin x 0)
    rw [← Int.mul_assoc]
    exact Int.dvd_trans (dvd_term (h 0 (Nat.le_refl _))) (Int.dvd_mul_right _ _)
  | k + 1, j, h => by
    show d ∣ W * (bin d (j + 1) * bin x (k + 1) + conv d x (j + 2) k)
    rw [Int.mul_add, ← Int.mul_assoc]
    refine Int.dvd_add (Int.dvd_trans (dvd_term (h 0 (Nat.zero_le _))) (Int.dvd_mul_right _ _)) (dvd_conv k (j + 1) fun i hi => ?_)
    have := h (i + 1) (by omega)
    rw [show j + 1 + i = j + (i + 1) by omega]
    exact this
/-- 1 .. k divide W: the difference of the places divides W times that of the binomials -/
theorem bin_keeps {W : Int} {k : Nat} (h : ∀ i : Nat, i < k → ((i : Int) + 1) ∣ W) (x y : Int) : (x - y) ∣ W * (bin x k - bin y k) := by
  cases k with
  | zero => rw [bin_zero, bin_zero]; exact ⟨0, by simp⟩
  | succ k =>
    have e := vander y (k + 1) (x - y)
    rw [show x - y + y = x by omega] at e
    have e2 : bin x (k + 1) - bin y (k + 1) = conv (x - y) y 1 k := by
      rw [← e]
      show bin (x - y) 0 * bin y (k + 1) + conv (x - y) y 1 k - bin y (k + 1) = _
      rw [bin_zero]
      omega
    rw [e2]
    exact dvd_conv k 0 fun i hi => by
      have := h i (by omega)
      rwa [Nat.zero_add]
end PW
/-! MCrt -/
namespace PW
/-- a state of Euclid's way to a factor of n by m -/
structure Eu (m n a b x y : Int) : Prop where
  a0 : 0 ≤ a
  b0 : 0 ≤ b
  ca : m ∣ a - x * n
  cb : m ∣ b - y * n
  g : Int.gcd a b = Int.gcd n m
  sg : (0 ≤ x ∧ y ≤ 0) ∨ (x ≤ 0 ∧ 0 ≤ y)
  eq : (x.natAbs : Int) * b + (y.natAbs : Int) * a = m
  hx : (x.natAbs : Int) ≤ m
  hy : (y.natAbs : Int) ≤ m
theorem gcd_mod2 {u v : Int} (hu : 0 ≤ u) (hv : 0 < v) : Int.gcd v (u % v) = Int.gcd u v := by
  have e : (u % v).natAbs = u.natAbs % v.natAbs := by
    obtain ⟨a, rfl⟩ := Int.eq_ofNat_of_zero_le hu
    obtain ⟨b, rfl⟩ := Int.eq_ofNat_of_zero_le (Int.le_of_lt hv)
    rfl
  show Nat.gcd v.natAbs (u % v).natAbs = Nat.gcd u.natAbs v.natAbs
  rw [e, Nat.gcd_comm u.natAbs, Nat.gcd_comm v.natAbs (u.natAbs % v.natAbs), ← Nat.gcd_rec]
theorem Eu.step {m n a b x y : Int} (h : Eu m n a b x y) (hb : b ≠ 0) : Eu m n b (a % b) y (x - a / b * y) := by
  have hbp : 0 < b := by have := h.b0; omega
  have hq : 0 ≤ a / b := Int.ediv_nonneg h.a0 h.b0
  have e1 : a % b = a - a / b * b := by have := Int.emod_add_mul_ediv a b; rw [Int.mul_comm] at this; omega
  have c : m ∣ (a % b) - (x - a / b * y) * n := by
    have e : (a % b) - (x - a / b * y) * n = (a - x * n) - a / b * (b - y * n) := by
      rw [e1, Int.sub_mul, Int.mul_sub, Int.mul_assoc]; omega
    rw [e]
    exact Int.dvd_sub h.ca (Int.dvd_mul_of_dvd_right h.cb)
  have sg : (0 ≤ y ∧ x - a / b * y ≤ 0) ∨ (y ≤ 0 ∧ 0 ≤ x - a / b * y) := by
    rcases h.sg with ⟨p, q⟩ | ⟨p, q⟩
    · right
      have : a / b * y ≤ 0 := Int.mul_nonpos_of_nonneg_of_nonpos hq q
      exact ⟨q, by omega⟩
    · left
      have : 0 ≤ a / b * y := Int.mul_nonneg hq q
      exact ⟨q, by omega⟩
  have ab : ((x - a / b * y).natAbs : Int) = (x.natAbs : Int) + a / b * (y.natAbs : Int) := by
    rcases h.sg with ⟨p, q⟩ | ⟨p, q⟩
    · have : a / b * y ≤ 0 := Int.mul_nonpos_of_nonneg_of_nonpos hq q
      have ey : (y.natAbs : Int) = -y := by omega
      rw [ey, Int.mul_neg]; omega
    · have : 0 ≤ a / b * y := Int.mul_nonneg hq q
      have ey : (y.natAbs : Int) = y := by omega
      rw [ey]; omega
  have eq : (y.natAbs : Int) * (a % b) + ((x - a / b * y).natAbs : Int) * b = m := by
    rw [ab, e1, ← h.eq, Int.mul_sub, Int.add_mul]
    have : (y.natAbs : Int) * (a / b * b) = a / b * (y.natAbs : Int) * b := by
      rw [← Int.mul_assoc, Int.mul_comm (y.natAbs : Int) (a / b)]
    omega
  refine ⟨h.b0, Int.emod_nonneg _ hb, h.cb, c, by rw [gcd_mod2 h.a0 hbp, h.g], sg, eq, h.hy, ?_⟩
  have p1 : 0 ≤ (y.natAbs : Int) * (a % b) := Int.mul_nonneg (by omega) (Int.emod_nonneg _ hb)
  have p2 : ((x - a / b * y).natAbs : Int) * 1 ≤ ((x - a / b * y).natAbs : Int) * b := Int.mul_le_mul_of_nonneg_left (by omega) (by omega)
  omega
theorem Eu.start1 {m n : Int} (hn : 0 ≤ n) (hm : 0 < m) : Eu m n m (n % m) 0 1 := by
  refine ⟨by omega, Int.emod_nonneg _ (by omega), by simp, ?_, ?_, .inr ⟨by omega, by omega⟩, by simp, by simp; omega, by simp; omega⟩
  · rw [Int.one_mul]
    have := Int.emod_add_mul_ediv n m
    exact ⟨-(n / m), by rw [Int.mul_neg]; omega⟩
  · exact gcd_mod2 hn hm
theorem Eu.stop {m n a x y : Int} (h : Eu m n a 0 x y) : m ∣ (Int.gcd n m : Int) - x * n := by
  have := h.g
  rw [Int.gcd_zero_right] at this
  have e : (Int.gcd n m : Int) = a := by have := h.a0; omega
  rw [e]
  exact h.ca
/-- two classes with X in both, met: rounds by a factor f of m1 / d -/
theorem met_law {X r1 m1 r2 m2 f : Int} (h1 : 0 < m1) (h2 : 0 < m2) (c1 : m1 ∣ X - r1) (c2 : m2 ∣ X - r2) (hf : m2 / (Int.gcd m1 m2 : Int) ∣ 1 - f * (m1 / (Int.gcd m1 m2 : Int))) :
    m1 * (m2 / (Int.gcd m1 m2 : Int)) ∣ X - (r1 + m1 * ((r2 - r1) / (Int.gcd m1 m2 : Int) * f % (m2 / (Int.gcd m1 m2 : Int)))) := by
  obtain ⟨q, hq⟩ := c1
  obtain ⟨q', hq'⟩ := c2
  have hd : 0 < (Int.gcd m1 m2 : Int) := by
    have : 0 < Int.gcd m1 m2 := Int.gcd_pos_of_ne_zero_left _ (by omega)
    omega
  generalize hdd : (Int.gcd m1 m2 : Int) = d at *
  have d1 : d ∣ m1 := hdd ▸ Int.gcd_dvd_left ..
  have d2 : d ∣ m2 := hdd ▸ Int.gcd_dvd_right ..
  obtain ⟨a, ha⟩ := d1
  obtain ⟨b, hb⟩ := d2
  have ea : m1 / d = a := by rw [ha, Int.mul_ediv_cancel_left _ (by omega)]
  have eb : m2 / d = b := by rw [hb, Int.mul_ediv_cancel_left _ (by omega)]
  rw [ea, eb] at hf
  rw [eb]
  have er : (r2 - r1) / d = a * q - b * q' := by
    have : r2 - r1 = d * (a * q - b * q') := by
      rw [Int.mul_sub, ← Int.mul_assoc, ← Int.mul_assoc, ← ha, ← hb]; omega
    rw [this, Int.mul_ediv_cancel_left _ (by omega)]
  rw [er]
  obtain ⟨u, hu⟩ := hf
  -- (a q - b q') f = q + b * something
  have hb0 : b ≠ 0 := fun z => by rw [z] at hb; omega
  have key : b ∣ q - (a * q - b * q') * f % b := by
    have e1 : (a * q - b * q') * f = q - b * (u * q + q' * f) := by
      have e2 : f * a = 1 - b * u := by omega
      have e3 : a * q * f = (f * a) * q := by rw [Int.mul_comm f a, Int.mul_assoc, Int.mul_assoc, Int.mul_comm q f]
      rw [Int.sub_mul, e3, e2, Int.sub_mul, Int.one_mul, Int.mul_add, Int.mul_assoc, Int.mul_assoc]
      omega
    have e4 := Int.emod_add_mul_ediv ((a * q - b * q') * f) b
    refine ⟨(u * q + q' * f) + (a * q - b * q') * f / b, ?_⟩
    rw [Int.mul_add]
    omega
  obtain ⟨k, hk⟩ := key
  refine ⟨k, ?_⟩
  have : X - (r1 + m1 * ((a * q - b * q') * f % b)) = m1 * (q - (a * q - b * q') * f % b) := by
    rw [Int.mul_sub]; omega
  rw [this, hk, Int.mul_assoc]
/-- L is the least common multiple of some -/
def IsL (fs : List Int) (L : Int) : Prop := 0 < L ∧ ∀ z, L ∣ z ↔ ∀ f ∈ fs, f ∣ z
theorem IsL.nil : IsL [] 1 := ⟨by decide, fun z => ⟨fun _ _ h => by simp at h, fun _ => Int.one_dvd _⟩⟩
theorem IsL.snoc {fs : List Int} {L f g : Int} (h : IsL fs L) (hg : 0 < g) (e : g = f ∨ g = -f) : IsL (fs ++ [f]) (L * (g / (Int.gcd L g : Int))) := by
  have hL := h.1
  have hd : 0 < (Int.gcd L g : Int) := by
    have : 0 < Int.gcd L g := Int.gcd_pos_of_ne_zero_left _ (by omega)
    omega
  have dg : (Int.gcd L g : Int) ∣ g := Int.gcd_dvd_right ..
  have el : L * (g / (Int.gcd L g : Int)) = (Int.lcm L g : Int) := by
    have h1 : (Int.gcd L g : Int) * (Int.lcm L g : Int) = L * g := by
      have := Int.gcd_mul_lcm L g
      have n1 : ((Int.gcd L g * Int.lcm L g : Nat) : Int) = ((L * g).natAbs : Int) := by rw [this, Int.natAbs_mul]
      rw [Int.natCast_mul] at n1
      rw [n1]
      have : 0 ≤ L * g := Int.mul_nonneg (by omega) (by omega)
      omega
    obtain ⟨k, hk⟩ := dg
    have h2 : g / (Int.gcd L g : Int) = k := Int.ediv_eq_of_eq_mul_right (by omega) hk
    rw [h2]
    have h3 : (Int.gcd L g : Int) * (Int.lcm L g : Int) = (Int.gcd L g : Int) * (L * k) := by
      rw [h1, ← Int.mul_assoc, Int.mul_comm (Int.gcd L g : Int) L, Int.mul_assoc, ← hk]
    exact (Int.eq_of_mul_eq_mul_left (by omega) h3).symm
  rw [el]
  refine ⟨?_, fun z => ?_⟩
  · have : 0 < Int.lcm L g := Int.lcm_pos (by omega) (by omega)
    omega
  · have fg : f ∣ z ↔ g ∣ z := by
      rcases e with e | e
      · rw [e]
      · rw [e, Int.neg_dvd]
    constructor
    · intro hz x hx
      rcases List.mem_append.mp hx with hx | hx
      · exact (h.2 z).mp (Int.dvd_trans (Int.dvd_lcm_left ..) hz) x hx
      · rw [List.mem_singleton.mp hx]
        exact fg.mpr (Int.dvd_trans (Int.dvd_lcm_right ..) hz)
    · intro hz
      have a : L ∣ z := (h.2 z).mpr fun x hx => hz x (List.mem_append_left _ hx)
      have b : g ∣ z := fg.mp (hz f (List.mem_append_right _ (List.mem_singleton.mpr rfl)))
      exact Int.coe_lcm_dvd a b
end PW
/-! MVal -/
namespace PW
/-- the least common multiple of 1 .. k, as the laws build it -/
def lc : Nat → Int
  | 0 => 1
  | k + 1 => lc k * ((k : Int) + 1) / Int.gcd (lc k) ((k : Int) + 1)
theorem gcd_pos' {a b : Int} (h : 0 < b) : (0 : Int) < Int.gcd a b := by
  have : Int.gcd a b ≠ 0 := fun e => by
    have := (Int.gcd_eq_zero_iff.mp e).2
    omega
  omega
/-- the least common multiple of two, from one and its part -/
theorem lcm_eq {a b : Int} (hb : 0 < b) (ha : 0 < a) : a ∣ a * b / Int.gcd a b ∧ b ∣ a * b / Int.gcd a b ∧ 0 < a * b / Int.gcd a b ∧ a * b / Int.gcd a b ≤ a * b := by
  have hg := gcd_pos' (a := a) hb
  obtain ⟨m, hm⟩ := Int.gcd_dvd_left a b
  obtain ⟨n, hn⟩ := Int.gcd_dvd_right a b
  generalize (Int.gcd a b : Int) = g at *
  have e1 : a * b / g = a * n := by
    conv => lhs; rw [hn, Int.mul_left_comm]
    exact Int.mul_ediv_cancel_left _ (by omega)
  have e2 : a * b / g = b * m := by
    conv => lhs; rw [Int.mul_comm, hm, Int.mul_left_comm]
    exact Int.mul_ediv_cancel_left _ (by omega)
  have hn0 : 0 < n := by
    refine Int.not_le.mp fun h => ?_
    have : g * n ≤ g * 0 := Int.mul_le_mul_of_nonneg_left h (by omega)
    omega
  refine ⟨⟨n, e1⟩, ⟨m, e2⟩, by rw [e1]; exact Int.mul_pos ha hn0, ?_⟩
  rw [e1]
  refine Int.mul_le_mul_of_nonneg_left ?_ (by omega)
  have : 1 * n ≤ g * n := Int.mul_le_mul_of_nonneg_right (by omega) (by omega)
  omega
theorem lc_pos : ∀ k, 0 < lc k
  | 0 => by decide
  | k + 1 => (lcm_eq (by omega) (lc_pos k)).2.2.1
theorem lc_step (k : Nat) : lc k ∣ lc (k + 1) := (lcm_eq (by omega) (lc_pos k)).1
theorem lc_last (k : Nat) : ((k : Int) + 1) ∣ lc (k + 1) := (lcm_eq (by omega) (lc_pos k)).2.1
theorem lc_le (k : Nat) : lc (k + 1) ≤ lc k * ((k : Int) + 1) := (lcm_eq (by omega) (lc_pos k)).2.2.2
theorem lc_dvd : ∀ (k i : Nat), i < k → ((i : Int) + 1) ∣ lc k
  | 0, i, h => absurd h (by omega)
  | k + 1, i, h => by
    by_cases e : i = k
    · subst e; exact lc_last _
    · exact Int.dvd_trans (lc_dvd k i (by omega)) (lc_step k)
/-- bounds by powers of 2 -/
theorem lc_bd : ∀ k : Nat, k ≤ 64 → lc k ≤ 2 ^ (6 * k)
  | 0, _ => by decide
  | k + 1, h => by
    have ih := lc_bd k (by omega)
    have h1 : lc k * ((k : Int) + 1) ≤ 2 ^ (6 * k) * 2 ^ 6 := Int.mul_le_mul ih (by omega) (by omega) (by have := lc_pos k; omega)
    rw [← Int.pow_add] at h1
    exact Int.le_trans (lc_le k) (by rw [show 6 * (k + 1) = 6 * k + 6 by omega]; exact h1)
theorem fac_bd : ∀ k : Nat, k ≤ 64 → fac k ≤ 2 ^ (6 * k)
  | 0, _ => by decide
  | k + 1, h => by
    have ih := fac_bd k (by omega)
    have h1 : fac k * ((k : Int) + 1) ≤ 2 ^ (6 * k) * 2 ^ 6 := Int.mul_le_mul ih (by omega) (by omega) (by have := fac_pos k; omega)
    rw [← Int.pow_add] at h1
    show fac k * ((k : Int) + 1) ≤ _
    rw [show 6 * (k + 1) = 6 * k + 6 by omega]
    exact h1
theorem fal_bd {x : Int} {a n : Nat} (h : x.natAbs + n ≤ 2 ^ a) : ∀ k : Nat, k ≤ n → (fal x k).natAbs ≤ 2 ^ (a * k)
  | 0, _ => by simp [fal]
  | k + 1, hk => by
    have ih := fal_bd h k (by omega)
    show (fal x k * (x - (k : Int))).natAbs ≤ _
    rw [Int.natAbs_mul, Nat.mul_add, Nat.mul_one, Nat.pow_add]
    exact Nat.mul_le_mul ih (by omega)
theorem bin_bd {x : Int} {k : Nat} : (bin x k).natAbs ≤ (fal x k).natAbs := by
  rw [bin_mul, Int.natAbs_mul]
  have := fac_pos k
  have h : 1 * (bin x k).natAbs ≤ (fac k).natAbs * (bin x k).natAbs := Nat.mul_le_mul_right _ (by omega)
  omega
/-- the value at x of the formula of the first k integers of cs -/
def valTo (cs : List Int) (x : Int) : Nat → Int
  | 0 => 0
  | k + 1 => valTo cs x k + cs.getD k 0 * lc k * bin x k
def valF (cs : List Int) (x : Int) : Int := valTo cs x cs.length
theorem valTo_keeps (cs : List Int) (x y : Int) : ∀ k, (x - y) ∣ (valTo cs x k - valTo cs y k)
  | 0 => by simp [valTo]
  | k + 1 => by
    have e : valTo cs x (k + 1) - valTo cs y (k + 1) = (valTo cs x k - valTo cs y k) + cs.getD k 0 * (lc k * (bin x k - bin y k)) := by
      show valTo cs x k + cs.getD k 0 * lc k * bin x k - (valTo cs y k + cs.getD k 0 * lc k * bin y k) = _
      rw [Int.mul_sub, Int.mul_sub, ← Int.mul_assoc, ← Int.mul_assoc]
      omega
    rw [e]
    exact Int.dvd_add (valTo_keeps cs x y k) (Int.dvd_trans (bin_keeps (lc_dvd k) x y) (Int.dvd_mul_left _ _))
theorem valF_keeps (cs : List Int) (x y : Int) : (x - y) ∣ (valF cs x - valF cs y) := valTo_keeps cs x y _
/-- the size of a value -/
theorem valTo_bd {cs : List Int} {x : Int} {a c : Nat} (hx : x.natAbs + cs.length ≤ 2 ^ a) (hc : ∀ z ∈ cs, z.natAbs ≤ 2 ^ c) (h64 : cs.length ≤ 64) : ∀ k, k ≤ cs.length → (valTo cs x k).natAbs ≤ k * 2 ^ (c + 6 * cs.length + a * cs.length)
  | 0, _ => by simp [valTo]
  | k + 1, hk => by
    have ih := valTo_bd hx hc h64 k (by omega)
    have h1 : (cs.getD k 0).natAbs ≤ 2 ^ c := by
      rw [List.getD_eq_getElem?_getD, List.getElem?_eq_getElem (by omega)]
      exact hc _ (List.getElem_mem _)
    have h2 : (lc k).natAbs ≤ 2 ^ (6 * cs.length) := by
      have b1 := lc_bd k (by omega)
      have b2 := lc_pos k
      have b3 : (2 : Nat) ^ (6 * k) ≤ 2 ^ (6 * cs.length) := Nat.pow_le_pow_right (by decide) (by omega)
      have b4 : ((2 ^ (6 * k) : Nat) : Int) = (2 : Int) ^ (6 * k) := by norm_cast
      omega
    have h3 : (bin x k).natAbs ≤ 2 ^ (a * cs.length) := Nat.le_trans bin_bd (Nat.le_trans (fal_bd hx k (by omega)) (Nat.pow_le_pow_right (by decide) (Nat.mul_le_mul_left _ (by omega))))
    have h4 : (cs.getD k 0 * lc k * bin x k).natAbs ≤ 2 ^ (c + 6 * cs.length + a * cs.length) := by
      rw [Int.natAbs_mul, Int.natAbs_mul, Nat.pow_add, Nat.pow_add]
      exact Nat.mul_le_mul (Nat.mul_le_mul h1 h2) h3
    have h5 := Int.natAbs_add_le (valTo cs x k) (cs.getD k 0 * lc k * bin x k)
    rw [Nat.add_mul]
    show (valTo cs x k + cs.getD k 0 * lc k * bin x k).natAbs ≤ _
    omega
end PW
/-! MFal -/
namespace PW
/-- the difference of a function -/
def dif (f : Int → Int) : Int → Int := fun x => f (x + 1) - f x
def difN : Nat → (Int → Int) → Int → Int
  | 0, f => f
  | n + 1, f => difN n (dif f)
/-- the n-th differences are 0 -/
def Deg : Nat → (Int → Int) → Prop
  | 0, f => ∀ x, f x = 0
  | n + 1, f => Deg n (dif f)
theorem Deg.congr : ∀ {n : Nat} {f g : Int → Int}, (∀ x, f x = g x) → Deg n f → Deg n g
  | 0, f, g, e, h => fun x => by rw [← e x]; exact h x
  | n + 1, f, g, e, h => Deg.congr (n := n) (fun x => by show f (x + 1) - f x = g (x + 1) - g x; rw [e, e]) h
theorem Deg.zero : ∀ n : Nat, Deg n fun _ => 0
  | 0 => fun _ => rfl
  | n + 1 => Deg.congr (n := n) (fun x => by show (0 : Int) = 0 - 0; rfl) (Deg.zero n)
theorem Deg.up : ∀ {n : Nat} {f : Int → Int}, Deg n f → Deg (n + 1) f
  | 0, f, h => fun x => by show f (x + 1) - f x = 0; rw [h, h]; rfl
  | n + 1, f, h => Deg.up (n := n) h
theorem Deg.le {n m : Nat} {f : Int → Int} (h : Deg n f) (hm : n ≤ m) : Deg m f := by
  induction hm with
  | refl => exact h
  | step _ ih => exact ih.up
theorem Deg.add : ∀ {n : Nat} {f g : Int → Int}, Deg n f → Deg n g → Deg n fun x => f x + g x
  | 0, f, g, h, k => fun x => by show f x + g x = 0; rw [h, k]; rfl
  | n + 1, f, g, h, k => Deg.congr (n := n) (fun x => by show f (x + 1) - f x + (g (x + 1) - g x) = f (x + 1) + g (x + 1) - (f x + g x); omega) (Deg.add (n := n) h k)
theorem Deg.smul (c : Int) : ∀ {n : Nat} {f : Int → Int}, Deg n f → Deg n fun x => c * f x
  | 0, f, h => fun x => by show c * f x = 0; rw [h, Int.mul_zero]
  | n + 1, f, h => Deg.congr (n := n) (fun x => by show c * (f (x + 1) - f x) = c * f (x + 1) - c * f x; rw [Int.mul_sub]) (Deg.smul c (n := n) h)
theorem Deg.shift (s : Int) : ∀ {n : Nat} {f : Int → Int}, Deg n f → Deg n fun x => f (x + s)
  | 0, f, h => fun x => h _
  | n + 1, f, h => Deg.congr (n := n) (fun x => by
    show f (x + s + 1) - f (x + s) = f (x + 1 + s) - f (x + s)
    rw [show x + s + 1 = x + 1 + s by omega]) (Deg.shift s (n := n) h)
/-- zeros at 0 .. n - 1 and a degree below n: zero at all places -/
theorem Deg.null : ∀ {n : Nat} {f : Int → Int}, Deg n f → (∀ i : Nat, i < n → f i = 0) → ∀ x, f x = 0
  | 0, f, h, _ => h
  | n + 1, f, h, h0 => by
    have hd : ∀ x, dif f x = 0 := Deg.null (n := n) h fun i hi => by
      show f ((i : Int) + 1) - f i = 0
      have a := h0 i (by omega)
      have b := h0 (i + 1) (by omega)
      rw [show ((i + 1 : Nat) : Int) = (i : Int) + 1 by omega] at b
      rw [a, b]; rfl
    refine both_ways (P := fun x => f x = 0) (h0 0 (by omega)) ?_ ?_
    · intro x hx
      have := hd x
      unfold dif at this
      omega
    · intro x hx
      have := hd x
      unfold dif at this
      omega
theorem bin_deg : ∀ k : Nat, Deg (k + 1) fun x => bin x k
  | 0 => fun x => by show bin (x + 1) 0 - bin x 0 = 0; rw [bin_zero, bin_zero]; rfl
  | k + 1 => Deg.congr (n := k + 1) (fun x => by show bin x k = bin (x + 1) (k + 1) - bin x (k + 1); rw [bin_pascal]; omega) (bin_deg k)
theorem valTo_deg (cs : List Int) : ∀ k : Nat, Deg k fun x => valTo cs x k
  | 0 => fun _ => rfl
  | k + 1 => Deg.add ((valTo_deg cs k).up) (Deg.smul (cs.getD k 0 * lc k) (bin_deg k))
theorem valF_deg (cs : List Int) : Deg cs.length (valF cs) := valTo_deg cs _
/-- binomials of a place from 0 on below the number -/
theorem bin_low : ∀ {i k : Nat}, i < k → bin (i : Int) k = 0 := fun {i k} h => by
  have e : fal (i : Int) k = 0 := by
    have : ∀ k, i < k → fal (i : Int) k = 0 := fun k => by
      induction k with
      | zero => intro h; omega
      | succ k ih =>
        intro h
        show fal (i : Int) k * ((i : Int) - k) = 0
        by_cases e : i = k
        · subst e; rw [Int.sub_self, Int.mul_zero]
        · rw [ih (by omega), Int.zero_mul]
    exact this k h
  unfold bin
  rw [e]
  exact Int.zero_ediv _
theorem bin_top (k : Nat) : bin (k : Int) k = 1 := by
  have e : ∀ k : Nat, fal (k : Int) k = fac k := fun k => by
    induction k with
    | zero => rfl
    | succ k ih =>
      rw [show ((k + 1 : Nat) : Int) = (k : Int) + 1 by omega, fal_left, ih]
      show ((k : Int) + 1) * fac k = fac k * ((k : Int) + 1)
      exact Int.mul_comm _ _
  unfold bin
  rw [e]
  exact Int.ediv_self (Int.ne_of_gt (fac_pos k))
theorem valTo_low {cs : List Int} {i : Nat} : ∀ {k : Nat}, i < k → valTo cs i k = valTo cs i (i + 1) := fun {k} h => by
  induction k with
  | zero => omega
  | succ k ih =>
    by_cases e : i = k
    · subst e; rfl
    · show valTo cs i k + cs.getD k 0 * lc k * bin i k = _
      rw [ih (by omega), bin_low (by omega), Int.mul_zero, Int.add_zero]
theorem valTo_at (cs : List Int) (i : Nat) : valTo cs i (i + 1) = valTo cs i i + cs.getD i 0 * lc i := by
  show valTo cs i i + cs.getD i 0 * lc i * bin i i = _
  rw [bin_top, Int.mul_one]
end PW
/-! MForm -/
namespace PW
def Keeps (f : Int → Int) : Prop := ∀ x y : Int, (x - y) ∣ (f x - f y)
theorem Keeps.add {f g : Int → Int} (h : Keeps f) (k : Keeps g) : Keeps fun x => f x + g x := fun x y => by
  show (x - y) ∣ (f x + g x - (f y + g y))
  rw [show f x + g x - (f y + g y) = (f x - f y) + (g x - g y) by omega]
  exact Int.dvd_add (h x y) (k x y)
theorem Keeps.sub {f g : Int → Int} (h : Keeps f) (k : Keeps g) : Keeps fun x => f x - g x := fun x y => by
  show (x - y) ∣ (f x - g x - (f y - g y))
  rw [show f x - g x - (f y - g y) = (f x - f y) - (g x - g y) by omega]
  exact Int.dvd_sub (h x y) (k x y)
theorem keeps_valF (cs : List Int) : Keeps (valF cs) := valF_keeps cs
/-- Newton's sum of the first k terms -/
def nwTo (f : Int → Int) (x : Int) : Nat → Int
  | 0 => 0
  | k + 1 => nwTo f x k + difN k f 0 * bin x k
theorem nwTo_0 (f : Int → Int) : ∀ k, nwTo f 0 (k + 1) = f 0
  | 0 => by show 0 + f 0 * bin 0 0 = f 0; rw [bin_zero, Int.mul_one, Int.zero_add]
  | k + 1 => by
    show nwTo f 0 (k + 1) + difN (k + 1) f 0 * bin 0 (k + 1) = f 0
    rw [nwTo_0 f k, bin_0, Int.mul_zero, Int.add_zero]
theorem nwTo_dif (f : Int → Int) (x : Int) : ∀ k, nwTo f (x + 1) (k + 1) - nwTo f x (k + 1) = nwTo (dif f) x k
  | 0 => by
    show 0 + f 0 * bin (x + 1) 0 - (0 + f 0 * bin x 0) = 0
    rw [bin_zero, bin_zero]; omega
  | k + 1 => by
    show nwTo f (x + 1) (k + 1) + difN (k + 1) f 0 * bin (x + 1) (k + 1) - (nwTo f x (k + 1) + difN (k + 1) f 0 * bin x (k + 1)) = nwTo (dif f) x k + difN k (dif f) 0 * bin x k
    rw [← nwTo_dif f x k, bin_pascal, Int.mul_add]
    show nwTo f (x + 1) (k + 1) + (difN k (dif f) 0 * bin x (k + 1) + difN k (dif f) 0 * bin x k) - (nwTo f x (k + 1) + difN k (dif f) 0 * bin x (k + 1)) = _
    omega
theorem newton : ∀ (n : Nat) (f : Int → Int) (i : Nat), i < n → nwTo f i n = f i
  | 0, f, i, h => absurd h (by omega)
  | n + 1, f, 0, _ => nwTo_0 f n
  | n + 1, f, i + 1, h => by
    have ih := newton n (dif f) i (by omega)
    have h2 := newton (n + 1) f i (by omega)
    have e := nwTo_dif f i n
    rw [show ((i + 1 : Nat) : Int) = (i : Int) + 1 by omega]
    rw [ih] at e
    unfold dif at e
    omega
theorem lcm_dvd {a b m : Int} (ha : 0 < a) (hb : 0 < b) (h1 : a ∣ m) (h2 : b ∣ m) : a * b / Int.gcd a b ∣ m := by
  have e : a * b / Int.gcd a b = ((Int.lcm a b : Nat) : Int) := by
    obtain ⟨n, rfl⟩ := Int.eq_ofNat_of_zero_le (Int.le_of_lt ha)
    obtain ⟨k, rfl⟩ := Int.eq_ofNat_of_zero_le (Int.le_of_lt hb)
    show ((n : Int) * (k : Int)) / ((Nat.gcd n k : Nat) : Int) = ((n * k / Nat.gcd n k : Nat) : Int)
    rw [Int.natCast_ediv, Int.natCast_mul]
  rw [e]
  exact Int.dvd_natAbs.mp (Int.natCast_dvd_natCast.mpr (Int.lcm_dvd (Int.dvd_natAbs.mpr h1) (Int.dvd_natAbs.mpr h2)))
theorem lc_least {m : Int} : ∀ k : Nat, (∀ i : Nat, i < k → ((i : Int) + 1) ∣ m) → lc k ∣ m
  | 0, _ => Int.one_dvd _
  | k + 1, h => lcm_dvd (lc_pos k) (by omega) (lc_least k fun i hi => h i (by omega)) (h k (by omega))
theorem nwTo_keeps {f : Int → Int} : ∀ k : Nat, (∀ i : Nat, i < k → lc i ∣ difN i f 0) → Keeps fun x => nwTo f x k
  | 0, _ => fun x y => by show (x - y) ∣ (0 - 0); exact Int.dvd_zero _
  | k + 1, h => by
    refine (nwTo_keeps k fun i hi => h i (by omega)).add ?_
    obtain ⟨c, hc⟩ := h k (by omega)
    intro x y
    show (x - y) ∣ (difN k f 0 * bin x k - difN k f 0 * bin y k)
    rw [hc, ← Int.mul_sub, Int.mul_comm (lc k) c, Int.mul_assoc]
    exact Int.dvd_trans (bin_keeps (lc_dvd k) x y) (Int.dvd_mul_left _ _)
theorem difN_dvd {f : Int → Int} (hf : Keeps f) (k : Nat) : lc k ∣ difN k f 0 := by
  induction k using Nat.strongRecOn with
  | _ k ih =>
    have kp := hf.sub (nwTo_keeps (f := f) k ih)
    refine lc_least k fun i hi => ?_
    have d := kp (k : Int) ((k - (i + 1) : Nat) : Int)
    have e1 : nwTo f ((k - (i + 1) : Nat) : Int) k = f ((k - (i + 1) : Nat) : Int) := newton k f _ (by omega)
    have e2 : nwTo f (k : Int) k + difN k f 0 * bin (k : Int) k = f k := newton (k + 1) f k (by omega)
    rw [bin_top, Int.mul_one] at e2
    simp only at d
    rw [e1, show (k : Int) - ((k - (i + 1) : Nat) : Int) = (i : Int) + 1 by omega, show f (k : Int) - nwTo f (k : Int) k - (f ((k - (i + 1) : Nat) : Int) - f ((k - (i + 1) : Nat) : Int)) = difN k f 0 by omega] at d
    exact d
/-- the integers of the formula of a function with so many values -/
def coefs (f : Int → Int) (n : Nat) : List Int := (List.range n).map fun k => difN k f 0 / lc k
theorem coefs_len (f : Int → Int) (n : Nat) : (coefs f n).length = n := by simp [coefs]
theorem valTo_coefs {f : Int → Int} (hf : Keeps f) (n : Nat) (x : Int) : ∀ k : Nat, k ≤ n → valTo (coefs f n) x k = nwTo f x k
  | 0, _ => rfl
  | k + 1, h => by
    show valTo (coefs f n) x k + (coefs f n).getD k 0 * lc k * bin x k = nwTo f x k + difN k f 0 * bin x k
    have e : (coefs f n).getD k 0 = difN k f 0 / lc k := by
      rw [List.getD_eq_getElem?_getD]
      unfold coefs
      rw [List.getElem?_map, List.getElem?_range (by omega)]
      rfl
    rw [valTo_coefs hf n x k (by omega), e, Int.ediv_mul_cancel (difN_dvd hf k)]
theorem nwTo_deg (f : Int → Int) : ∀ k : Nat, Deg k fun x => nwTo f x k
  | 0 => fun _ => rfl
  | k + 1 => Deg.add ((nwTo_deg f k).up) (Deg.smul (difN k f 0) (bin_deg k))
/-- what keeps remainders and has a degree below n is told by its first n values -/
theorem interp {f : Int → Int} {n : Nat} (hf : Keeps f) (hd : Deg n f) (x : Int) : valF (coefs f n) x = f x := by
  have h : Deg n fun x => f x + -1 * nwTo f x n := hd.add (Deg.smul (-1) (nwTo_deg f n))
  have z := h.null (fun i hi => by show f i + -1 * nwTo f i n = 0; rw [newton n f i hi]; omega) x
  have e : valF (coefs f n) x = nwTo f x n := by
    unfold valF
    rw [coefs_len]
    exact valTo_coefs hf n x n (Nat.le_refl _)
  rw [e]
  omega
/-- a formula without zeros at its end, but for the first item -/
def IsPlain (r : List Int) : Prop := r ≠ [] ∧ (r.length = 1 ∨ r.getD (r.length - 1) 0 ≠ 0)
theorem getD_out {r : List Int} {k : Nat} (h : r.length ≤ k) : r.getD k 0 = 0 := by
  rw [List.getD_eq_getElem?_getD, List.getElem?_eq_none h]; rfl
theorem valTo_out {r : List Int} {x : Int} : ∀ {k : Nat}, r.length ≤ k → valTo r x k = valF r x := fun {k} h => by
  induction h with
  | refl => rfl
  | step h ih =>
    rename_i m
    show valTo r x m + r.getD m 0 * lc m * bin x m = _
    rw [ih, getD_out h, Int.zero_mul, Int.zero_mul, Int.add_zero]
/-- equal values: equal integers, place by place -/
theorem same_getD {r s : List Int} (h : ∀ i : Nat, valF r i = valF s i) (k : Nat) : r.getD k 0 = s.getD k 0 ∧ ∀ x, valTo r x k = valTo s x k := by
  induction k with
  | zero =>
    refine ⟨?_, fun _ => rfl⟩
    have e := h 0
    have a : ∀ t : List Int, valF t ((0 : Nat) : Int) = t.getD 0 0 := fun t => by
      cases t with
      | nil => rfl
      | cons c cs =>
        show valTo (c :: cs) ((0 : Nat) : Int) (cs.length + 1) = _
        rw [valTo_low (i := 0) (by omega), valTo_at]
        show 0 + c * lc 0 = c
        show 0 + c * 1 = c
        omega
    rw [a r, a s] at e
    exact e
  | succ k ih =>
    have step : ∀ x, valTo r x (k + 1) = valTo s x (k + 1) := fun x => by
      show valTo r x k + r.getD k 0 * lc k * bin x k = valTo s x k + s.getD k 0 * lc k * bin x k
      rw [ih.1, ih.2]
    refine ⟨?_, step⟩
    have e := h (k + 1)
    have a : ∀ t : List Int, valF t ((k + 1 : Nat) : Int) = valTo t ((k + 1 : Nat) : Int) (k + 1) + t.getD (k + 1) 0 * lc (k + 1) := fun t => by
      rw [← valTo_at, ← valTo_out (r := t) (k := max t.length (k + 2)) (by omega), valTo_low (i := k + 1) (by omega)]
    rw [a r, a s, step] at e
    have e2 : r.getD (k + 1) 0 * lc (k + 1) = s.getD (k + 1) 0 * lc (k + 1) := by omega
    exact Int.eq_of_mul_eq_mul_right (Int.ne_of_gt (lc_pos _)) e2
theorem plain_len {r s : List Int} (hr : IsPlain r) (hs : IsPlain s) (h : ∀ k, r.getD k 0 = s.getD k 0) : r.length ≤ s.length := by
  refine Nat.not_lt.mp fun hl => ?_
  have h1 : 0 < s.length := List.length_pos_iff.mpr hs.1
  rcases hr.2 with e | e
  · omega
  · exact e (by rw [h, getD_out (by omega)])
/-- formulas without zeros at their ends are told by their values -/
theorem plain_uniq {r s : List Int} (hr : IsPlain r) (hs : IsPlain s) (h : ∀ i : Nat, valF r i = valF s i) : r = s := by
  have g : ∀ k, r.getD k 0 = s.getD k 0 := fun k => (same_getD h k).1
  have hl : r.length = s.length := Nat.le_antisymm (plain_len hr hs g) (plain_len hs hr fun k => (g k).symm)
  refine List.ext_getElem hl fun i h1 h2 => ?_
  have := g i
  rw [List.getD_eq_getElem?_getD, List.getD_eq_getElem?_getD, List.getElem?_eq_getElem h1, List.getElem?_eq_getElem h2] at this
  exact this
end PW
/-! MAlg -/
namespace PW
theorem valTo_ext {r s : List Int} (h : ∀ k, r.getD k 0 = s.getD k 0) (x : Int) : ∀ k, valTo r x k = valTo s x k
  | 0 => rfl
  | k + 1 => by show valTo r x k + r.getD k 0 * lc k * bin x k = valTo s x k + s.getD k 0 * lc k * bin x k; rw [valTo_ext h x k, h]
theorem valF_ext {r s : List Int} (h : ∀ k, r.getD k 0 = s.getD k 0) (x : Int) : valF r x = valF s x := by
  rw [← valTo_out (r := r) (k := max r.length s.length) (by omega), ← valTo_out (r := s) (k := max r.length s.length) (by omega), valTo_ext h]
theorem getD_take {r : List Int} {m k : Nat} (h : ∀ j, m ≤ j → r.getD j 0 = 0) : (r.take m).getD k 0 = r.getD k 0 := by
  by_cases hk : k < m
  · rw [List.getD_eq_getElem?_getD, List.getD_eq_getElem?_getD, List.getElem?_take, if_pos hk]
  · rw [h k (by omega), List.getD_eq_getElem?_getD, List.getElem?_take, if_neg hk]; rfl
theorem valF_take {r : List Int} {m : Nat} (h : ∀ j, m ≤ j → r.getD j 0 = 0) (x : Int) : valF (r.take m) x = valF r x := valF_ext (fun k => getD_take h) x
/-- the degree tells the length -/
theorem plain_deg {r : List Int} (hr : IsPlain r) {m : Nat} (h : Deg m (valF r)) : r.length ≤ max 1 m := by
  refine Nat.not_lt.mp fun hl => ?_
  have e : ∀ i : Nat, valF (coefs (valF r) m) i = valF r i := fun i => interp (keeps_valF r) h i
  have g := (same_getD e (r.length - 1)).1
  rcases hr.2 with z | z
  · omega
  · exact z (by rw [← g, getD_out (by rw [coefs_len]; omega)])
/-- sizes -/
theorem difN_bd {V : Nat} : ∀ (k : Nat) (f : Int → Int) (j : Nat), (∀ i, i ≤ k → (f ((j + i : Nat) : Int)).natAbs ≤ V) → (difN k f (j : Int)).natAbs ≤ 2 ^ k * V := by
  intro k
  induction k generalizing V with
  | zero =>
    intro f j h
    have := h 0 (Nat.le_refl _)
    simpa [difN] using this
  | succ k ih =>
    intro f j h
    have := ih (V := 2 * V) (dif f) j fun i hi => by
      have a := h i (by omega)
      have b := h (i + 1) (by omega)
      rw [show ((j + (i + 1) : Nat) : Int) = ((j + i : Nat) : Int) + 1 by omega] at b
      show (f (((j + i : Nat) : Int) + 1) - f ((j + i : Nat) : Int)).natAbs ≤ _
      omega
    rw [Nat.pow_succ, Nat.mul_assoc]
    exact this
theorem natAbs_ediv_le (a : Int) {b : Int} (hb : 0 < b) (hd : b ∣ a) : (a / b).natAbs ≤ a.natAbs := by
  obtain ⟨c, rfl⟩ := hd
  rw [Int.mul_ediv_cancel_left _ (by omega), Int.natAbs_mul]
  have h : 1 * c.natAbs ≤ b.natAbs * c.natAbs := Nat.mul_le_mul_right _ (by omega)
  omega
theorem coefs_bd {f : Int → Int} (hf : Keeps f) {n V : Nat} (h : ∀ i : Nat, i < n → (f i).natAbs ≤ 2 ^ V) : ∀ c ∈ coefs f n, c.natAbs ≤ 2 ^ (n + V) := by
  intro c hc
  unfold coefs at hc
  obtain ⟨k, hk, rfl⟩ := List.mem_map.mp hc
  have hkn := List.mem_range.mp hk
  have a := difN_bd (V := 2 ^ V) k f 0 fun i hi => by
    rw [show 0 + i = i by omega]
    exact h i (by omega)
  have b := natAbs_ediv_le (difN k f 0) (lc_pos k) (difN_dvd hf k)
  have c : 2 ^ k * 2 ^ V ≤ 2 ^ (n + V) := by rw [← Nat.pow_add]; exact Nat.pow_le_pow_right (by decide) (by omega)
  exact Nat.le_trans b (Nat.le_trans a c)
/-- the size of a value, as a power of 2 -/
theorem valF_bd {cs : List Int} {x : Int} {a c : Nat} (hx : x.natAbs + cs.length ≤ 2 ^ a) (hc : ∀ z ∈ cs, z.natAbs ≤ 2 ^ c) (h64 : cs.length ≤ 64) : (valF cs x).natAbs ≤ 2 ^ (6 + c + 6 * cs.length + a * cs.length) := by
  have h := valTo_bd hx hc h64 cs.length (Nat.le_refl _)
  refine Nat.le_trans h ?_
  have e : 6 + c + 6 * cs.length + a * cs.length = 6 + (c + 6 * cs.length + a * cs.length) := by omega
  rw [e]
  generalize c + 6 * cs.length + a * cs.length = E
  have h2 : cs.length * 2 ^ E ≤ 2 ^ 6 * 2 ^ E := Nat.mul_le_mul_right _ (by omega)
  rwa [← Nat.pow_add] at h2
end PW
/-! MRow -/
namespace PW
theorem lc_fac : ∀ k : Nat, lc k ≤ fac k
  | 0 => by decide
  | k + 1 => Int.le_trans (lc_le k) (Int.mul_le_mul_of_nonneg_right (lc_fac k) (by omega))
theorem fal_pow {x : Int} {B n : Nat} (h : x.natAbs + n ≤ B) : ∀ k : Nat, k ≤ n → (fal x k).natAbs ≤ B ^ k
  | 0, _ => by simp [fal]
  | k + 1, hk => by
    have ih := fal_pow h k (by omega)
    show (fal x k * (x - (k : Int))).natAbs ≤ _
    rw [Int.natAbs_mul, Nat.pow_succ]
    exact Nat.mul_le_mul ih (by omega)
theorem term_pow {x : Int} {B n k : Nat} (h : x.natAbs + n ≤ B) (hk : k ≤ n) : (lc k * bin x k).natAbs ≤ B ^ k := by
  refine Nat.le_trans ?_ (fal_pow h k hk)
  rw [bin_mul, Int.natAbs_mul, Int.natAbs_mul]
  exact Nat.mul_le_mul_right _ (by have := lc_fac k; have := lc_pos k; omega)
theorem valTo_small {r : List Int} {x : Int} {B n c0 t : Nat} (h : x.natAbs + n ≤ B) (hB : 1 ≤ B) (h0 : (r.getD 0 0).natAbs ≤ c0) (ht : ∀ k, 1 ≤ k → (r.getD k 0).natAbs ≤ t) : ∀ k : Nat, k ≤ n → (valTo r x (k + 1)).natAbs ≤ c0 + k * (t * B ^ n)
  | 0, _ => by
    show (0 + r.getD 0 0 * lc 0 * bin x 0).natAbs ≤ _
    rw [bin_zero, show lc 0 = 1 from rfl, Int.mul_one, Int.mul_one, Int.zero_add]
    omega
  | k + 1, hk => by
    have ih := valTo_small h hB h0 ht k (by omega)
    show (valTo r x (k + 1) + r.getD (k + 1) 0 * lc (k + 1) * bin x (k + 1)).natAbs ≤ _
    have a : (r.getD (k + 1) 0 * lc (k + 1) * bin x (k + 1)).natAbs ≤ t * B ^ n := by
      rw [Int.mul_assoc, Int.natAbs_mul]
      exact Nat.mul_le_mul (ht (k + 1) (by omega)) (Nat.le_trans (term_pow h hk) (Nat.pow_le_pow_right hB hk))
    have b := Int.natAbs_add_le (valTo r x (k + 1)) (r.getD (k + 1) 0 * lc (k + 1) * bin x (k + 1))
    rw [Nat.add_mul, Nat.one_mul]
    omega
/-- values near -/
theorem valF_small {r : List Int} {x : Int} {B n c0 t : Nat} (hl : 1 ≤ r.length) (hn : r.length ≤ n + 1) (h : x.natAbs + n ≤ B) (hB : 1 ≤ B) (h0 : (r.getD 0 0).natAbs ≤ c0) (ht : ∀ k, 1 ≤ k → (r.getD k 0).natAbs ≤ t) : (valF r x).natAbs ≤ c0 + n * (t * B ^ n) := by
  have a := valTo_small h hB h0 ht (r.length - 1) (by omega)
  rw [show r.length - 1 + 1 = r.length by omega] at a
  refine Nat.le_trans a (Nat.add_le_add_left (Nat.mul_le_mul_right _ (by omega)) _)
end PW
/-! MSure -/
namespace PW
/-- the least common multiple; 0 if one of them is 0 -/
def lcmF : List Int → Int
  | [] => 1
  | f :: fs => (Int.lcm f (lcmF fs) : Int)
theorem lcmF_nn : ∀ fs, 0 ≤ lcmF fs
  | [] => by decide
  | f :: fs => Int.natCast_nonneg _
theorem lcmF_dvd : ∀ (fs : List Int) (z : Int), lcmF fs ∣ z ↔ ∀ f ∈ fs, f ∣ z
  | [], z => ⟨fun _ f h => by simp at h, fun _ => Int.one_dvd _⟩
  | f :: fs, z => by
    show (Int.lcm f (lcmF fs) : Int) ∣ z ↔ _
    constructor
    · intro h g hg
      rcases List.mem_cons.mp hg with rfl | hg
      · exact Int.dvd_trans (Int.dvd_lcm_left ..) h
      · exact (lcmF_dvd fs z).mp (Int.dvd_trans (Int.dvd_lcm_right ..) h) g hg
    · intro h
      exact Int.coe_lcm_dvd (h f (List.mem_cons_self ..)) ((lcmF_dvd fs z).mpr fun g hg => h g (List.mem_cons_of_mem _ hg))
theorem lcmF_uniq {fs : List Int} {L : Int} (h0 : 0 ≤ L) (h : ∀ z, L ∣ z ↔ ∀ f ∈ fs, f ∣ z) : L = lcmF fs :=
  Int.dvd_antisymm h0 (lcmF_nn fs) ((h _).mpr ((lcmF_dvd fs _).mp (Int.dvd_refl _))) ((lcmF_dvd fs _).mpr ((h _).mp (Int.dvd_refl _)))
theorem lcmF_pos {fs : List Int} (h : ∀ f ∈ fs, f ≠ 0) : 0 < lcmF fs := by
  induction fs with
  | nil => decide
  | cons f fs ih =>
    show 0 < (Int.lcm f (lcmF fs) : Int)
    have a := ih fun g hg => h g (List.mem_cons_of_mem _ hg)
    have b := h f (List.mem_cons_self ..)
    have : 0 < Int.lcm f (lcmF fs) := Int.lcm_pos b (by omega)
    omega
theorem lcmF_isL {fs : List Int} (h : ∀ f ∈ fs, f ≠ 0) : IsL fs (lcmF fs) := ⟨lcmF_pos h, lcmF_dvd fs⟩
theorem lcmF_of {fs : List Int} {L : Int} (h : IsL fs L) : L = lcmF fs := lcmF_uniq (Int.le_of_lt h.1) h.2
/-- what m has of a least common multiple -/
theorem gcd_lcm_nat (a b m : Nat) (hm : 0 < m) : Nat.gcd (Nat.lcm a b) m ∣ Nat.lcm (Nat.gcd a m) (Nat.gcd b m) := by
  have e1 : Nat.gcd (Nat.gcd a m) (Nat.gcd b m) = Nat.gcd (Nat.gcd a b) m := by
    refine Nat.dvd_antisymm ?_ ?_
    · refine Nat.dvd_gcd (Nat.dvd_gcd ?_ ?_) ?_
      · exact Nat.dvd_trans (Nat.gcd_dvd_left ..) (Nat.gcd_dvd_left ..)
      · exact Nat.dvd_trans (Nat.gcd_dvd_right ..) (Nat.gcd_dvd_left ..)
      · exact Nat.dvd_trans (Nat.gcd_dvd_left ..) (Nat.gcd_dvd_right ..)
    · refine Nat.dvd_gcd (Nat.dvd_gcd ?_ ?_) (Nat.dvd_gcd ?_ ?_)
      · exact Nat.dvd_trans (Nat.gcd_dvd_left ..) (Nat.gcd_dvd_left ..)
      · exact Nat.gcd_dvd_right ..
      · exact Nat.dvd_trans (Nat.gcd_dvd_left ..) (Nat.gcd_dvd_right ..)
      · exact Nat.gcd_dvd_right ..
  have dp : 0 < Nat.gcd (Nat.gcd a b) m := Nat.gcd_pos_of_pos_right _ hm
  have key : Nat.gcd (Nat.lcm a b) m * Nat.gcd (Nat.gcd a b) m ∣ Nat.gcd a m * Nat.gcd b m := by
    rw [show Nat.gcd a m * Nat.gcd b m = Nat.gcd (Nat.gcd (a * b) (a * m)) (Nat.gcd (m * b) (m * m)) by rw [Nat.gcd_mul_left, Nat.gcd_mul_left, Nat.gcd_mul_right]]
    have hG : Nat.gcd (Nat.lcm a b) m ∣ m := Nat.gcd_dvd_right ..
    have hd : Nat.gcd (Nat.gcd a b) m ∣ m := Nat.gcd_dvd_right ..
    have ha : Nat.gcd (Nat.gcd a b) m ∣ a := Nat.dvd_trans (Nat.gcd_dvd_left ..) (Nat.gcd_dvd_left ..)
    have hb : Nat.gcd (Nat.gcd a b) m ∣ b := Nat.dvd_trans (Nat.gcd_dvd_left ..) (Nat.gcd_dvd_right ..)
    refine Nat.dvd_gcd (Nat.dvd_gcd ?_ ?_) (Nat.dvd_gcd ?_ ?_)
    · have := Nat.mul_dvd_mul (Nat.gcd_dvd_left (Nat.lcm a b) m) (Nat.gcd_dvd_left (Nat.gcd a b) m)
      rwa [Nat.lcm_mul_gcd] at this
    · rw [Nat.mul_comm a m]; exact Nat.mul_dvd_mul hG ha
    · exact Nat.mul_dvd_mul hG hb
    · exact Nat.mul_dvd_mul hG hd
  rw [← e1, ← Nat.lcm_mul_gcd (Nat.gcd a m) (Nat.gcd b m)] at key
  rw [e1] at key
  exact Nat.dvd_of_mul_dvd_mul_right dp key
theorem gcd_lcmF {m : Int} (hm : 0 < m) : ∀ fs : List Int, (Int.gcd (lcmF fs) m : Int) = lcmF (fs.map fun f => (Int.gcd f m : Int))
  | [] => by
    show (Int.gcd 1 m : Int) = 1
    rw [Int.gcd_one_left]; rfl
  | f :: fs => by
    have ih := gcd_lcmF hm fs
    show (Int.gcd (Int.lcm f (lcmF fs) : Int) m : Int) = (Int.lcm (Int.gcd f m : Int) (lcmF (fs.map fun f => (Int.gcd f m : Int))) : Int)
    rw [← ih]
    refine Int.dvd_antisymm (Int.natCast_nonneg _) (Int.natCast_nonneg _) ?_ ?_
    · have := gcd_lcm_nat f.natAbs (lcmF fs).natAbs m.natAbs (by omega)
      exact Int.natCast_dvd_natCast.mpr this
    · refine Int.dvd_coe_gcd (Int.coe_lcm_dvd ?_ ?_) (Int.coe_lcm_dvd ?_ ?_)
      · exact Int.dvd_trans (Int.gcd_dvd_left ..) (Int.dvd_lcm_left ..)
      · exact Int.dvd_trans (Int.gcd_dvd_left ..) (Int.dvd_lcm_right ..)
      · exact Int.gcd_dvd_right ..
      · exact Int.gcd_dvd_right ..
end PW
/-! MFill -/
namespace PW
theorem bez_at {m n : Int} : ∀ (k : Nat) {a b x y : Int}, Eu m n a b x y → b.toNat ≤ k → ∃ z, m ∣ (Int.gcd n m : Int) - z * n
  | 0, a, b, x, y, h, hk => by
    have b0 := h.b0
    obtain rfl : b = 0 := by omega
    exact ⟨x, h.stop⟩
  | k + 1, a, b, x, y, h, hk => by
    have b0 := h.b0
    by_cases hb : b = 0
    · subst hb; exact ⟨x, h.stop⟩
    · have := Int.emod_lt_of_pos a (show 0 < b by omega)
      have := Int.emod_nonneg a hb
      exact bez_at k (h.step hb) (by omega)
theorem bez {m n : Int} (hm : 0 < m) (hn : 0 ≤ n) : ∃ z, m ∣ (Int.gcd n m : Int) - z * n := bez_at _ (Eu.start1 hn hm) (Nat.le_refl _)
theorem crt_step {L m c : Int} (hm : 0 < m) (hL : 0 ≤ L) (h : (Int.gcd L m : Int) ∣ c) : ∃ t, m ∣ L * t - c := by
  obtain ⟨z, hz⟩ := bez hm hL
  obtain ⟨q, rfl⟩ := h
  refine ⟨z * q, ?_⟩
  have : L * (z * q) - (Int.gcd L m : Int) * q = -(((Int.gcd L m : Int) - z * L) * q) := by
    rw [Int.sub_mul, Int.mul_comm z L, Int.mul_assoc]; omega
  rw [this]
  exact Int.dvd_neg.mpr (Int.dvd_mul_of_dvd_left hz)
/-- remainders that agree two by two have a common value -/
theorem crt_ex : ∀ l : List (Int × Int), (∀ a ∈ l, 0 < a.1) → (∀ a ∈ l, ∀ b ∈ l, (Int.gcd a.1 b.1 : Int) ∣ a.2 - b.2) → ∃ X, ∀ a ∈ l, a.1 ∣ X - a.2
  | [], _, _ => ⟨0, fun a h => by simp at h⟩
  | (m, r) :: l, hp, hc => by
    obtain ⟨X0, h0⟩ := crt_ex l (fun a h => hp a (List.mem_cons_of_mem _ h)) (fun a h b g => hc a (List.mem_cons_of_mem _ h) b (List.mem_cons_of_mem _ g))
    have hm : 0 < m := hp (m, r) (List.mem_cons_self ..)
    have hg : (Int.gcd (lcmF (l.map Prod.fst)) m : Int) ∣ r - X0 := by
      rw [gcd_lcmF hm]
      refine (lcmF_dvd _ _).mpr fun f hf => ?_
      obtain ⟨g, hg, rfl⟩ := List.mem_map.mp hf
      obtain ⟨a, ha, rfl⟩ := List.mem_map.mp hg
      have a1 := hc (m, r) (List.mem_cons_self ..) a (List.mem_cons_of_mem _ ha)
      rw [Int.gcd_comm] at a1
      have a2 : (Int.gcd a.1 m : Int) ∣ X0 - a.2 := Int.dvd_trans (Int.gcd_dvd_left ..) (h0 a ha)
      have := Int.dvd_sub a1 a2
      rwa [show (m, r).2 - a.2 - (X0 - a.2) = r - X0 by show r - a.2 - (X0 - a.2) = _; omega] at this
    obtain ⟨t, ht⟩ := crt_step hm (lcmF_nn _) hg
    refine ⟨X0 + lcmF (l.map Prod.fst) * t, fun a ha => ?_⟩
    rcases List.mem_cons.mp ha with rfl | ha
    · show m ∣ X0 + _ - r
      rwa [show X0 + lcmF (l.map Prod.fst) * t - r = lcmF (l.map Prod.fst) * t - (r - X0) by omega]
    · have d : a.1 ∣ lcmF (l.map Prod.fst) * t := Int.dvd_mul_of_dvd_left ((lcmF_dvd (l.map Prod.fst) _).mp (Int.dvd_refl _) a.1 (List.mem_map.mpr ⟨a, ha, rfl⟩))
      rw [show X0 + lcmF (l.map Prod.fst) * t - a.2 = (X0 - a.2) + lcmF (l.map Prod.fst) * t by omega]
      exact Int.dvd_add (h0 a ha) d
/-- items that fit have a value at each place -/
theorem fit_ex {xs : List (Int × Int)} (h : ∀ x ∈ xs, ∀ y ∈ xs, (x.1 - y.1) ∣ (x.2 - y.2)) (pl : Int) : ∃ X, ∀ x ∈ xs, (pl - x.1) ∣ (X - x.2) := by
  by_cases ht : ∃ x ∈ xs, x.1 = pl
  · obtain ⟨x, hx, rfl⟩ := ht
    exact ⟨x.2, fun y hy => h x hx y hy⟩
  · obtain ⟨X, hX⟩ := crt_ex (xs.map fun x => (((pl - x.1).natAbs : Int), x.2)) (fun a ha => by
      obtain ⟨x, hx, rfl⟩ := List.mem_map.mp ha
      have : pl - x.1 ≠ 0 := fun z => ht ⟨x, hx, by omega⟩
      show 0 < ((pl - x.1).natAbs : Int)
      omega) (fun a ha b hb => by
      obtain ⟨x, hx, rfl⟩ := List.mem_map.mp ha
      obtain ⟨y, hy, rfl⟩ := List.mem_map.mp hb
      show (Int.gcd ((pl - x.1).natAbs : Int) ((pl - y.1).natAbs : Int) : Int) ∣ x.2 - y.2
      have d1 : (Int.gcd ((pl - x.1).natAbs : Int) ((pl - y.1).natAbs : Int) : Int) ∣ pl - x.1 := Int.dvd_trans (Int.gcd_dvd_left ..) (Int.natAbs_dvd.mpr (Int.dvd_refl _))
      have d2 : (Int.gcd ((pl - x.1).natAbs : Int) ((pl - y.1).natAbs : Int) : Int) ∣ pl - y.1 := Int.dvd_trans (Int.gcd_dvd_right ..) (Int.natAbs_dvd.mpr (Int.dvd_refl _))
      have := Int.dvd_sub d2 d1
      rw [show pl - y.1 - (pl - x.1) = x.1 - y.1 by omega] at this
      exact Int.dvd_trans this (h x hx y hy))
    refine ⟨X, fun x hx => ?_⟩
    have := hX _ (List.mem_map.mpr ⟨x, hx, rfl⟩)
    exact Int.natAbs_dvd.mp this
/-- a list's values -/
def atS (s : List Int) : Int → Int := fun x => s.getD x.toNat 0
def FitS (s : List Int) : Prop := ∀ i j : Nat, i < s.length → j < s.length → ((i : Int) - j) ∣ s.getD i 0 - s.getD j 0
theorem atS_nat (s : List Int) (i : Nat) : atS s i = s.getD i 0 := rfl
theorem fitS_dif {s : List Int} (h : FitS s) : ∀ k : Nat, k < s.length → lc k ∣ difN k (atS s) 0 := by
  intro k
  induction k using Nat.strongRecOn with
  | ind k ih =>
    intro hk
    have kp := nwTo_keeps (f := atS s) k fun i hi => ih i hi (by omega)
    have top : atS s k = nwTo (atS s) k k + difN k (atS s) 0 := by
      have := newton (k + 1) (atS s) k (by omega)
      rw [← this]
      show nwTo (atS s) k k + difN k (atS s) 0 * bin k k = _
      rw [bin_top, Int.mul_one]
    refine lc_least k fun i hi => ?_
    have hj : k - (i + 1) < k := by omega
    have low := newton k (atS s) (k - (i + 1)) hj
    have a := h k (k - (i + 1)) hk (by omega)
    have b := kp (k : Int) ((k - (i + 1) : Nat) : Int)
    have e : ((k : Nat) : Int) - ((k - (i + 1) : Nat) : Int) = (i : Int) + 1 := by omega
    rw [e] at a b
    have := Int.dvd_sub a b
    rw [← atS_nat s k, ← atS_nat s (k - (i + 1)), top, ← low] at this
    have e2 : nwTo (atS s) k k + difN k (atS s) 0 - nwTo (atS s) ((k - (i + 1) : Nat) : Int) k - (nwTo (atS s) k k - nwTo (atS s) ((k - (i + 1) : Nat) : Int) k) = difN k (atS s) 0 := by omega
    rwa [e2] at this
end PW
/-! PWT -/
namespace PW
open PySem L2 PyProof.Rows
section
variable {X : Cx} {P : XP} {F : Hp} {M : Cells} {δ : Slots} {σ : L2.St} {H : Hp} {e a b c o : Expr} {es : List Expr} {pos apos cpos p p2 q : Pos}
theorem Stt.setAt {K : PySem.W.Frag} (S : Stt K F M δ σ H) {k : Nat} {a : Addr} {w : World} {f : Int → Bool} {n : Nat} (h : M[k]? = some (a, .set w f n)) : H a = some (SetO w a f n) := S.cell _ (List.mem_of_getElem? h)
/-- sorted(s), s a set of ints: a cell -/
theorem we_sortedS {Q : D → Cells → Prop} (hc : X.calm = true) (hg : Gl X "sorted") (hm : X.mg "sorted" = none)
    (h : WE X P a δ M fun d M1 => ∃ (q : Addr) (k : Nat) (f : Int → Bool) (n : Nat), d = .cel q ∧ M1[k]? = some (q, .set X.w f n) ∧ n < 64 ∧ ∀ (ns : List Int) (p : Addr), ns.Pairwise (· < ·) → (∀ k, k ∈ ns ↔ f k = true) → ns.length = n → Q (.cel p) ((p, .lst (ns.map D.int)) :: M1))
    (he : starEach [a] X.env = (false, eval a X.env) :: starEach [] X.env := by rfl) (hpl : (backTo pos (starEach [] X.env)).any (·.1) = false := by rfl) :
    WE X P (.Call (.Name "sorted" p) [a] [] pos) δ M Q :=
  we_of (pe_callB (cr_sortedSet hc) hg hm (by decide +kernel) (pa_cons pe_sem pa_nil he) (by decide) (by decide) he hpl) fun σ H F G =>
    h.go G fun v H1 F1 M1 d s1 G1 r1 q1 => by
      obtain ⟨q, k, f, n, rfl, hk, hn, q1⟩ := q1
      cases r1
      refine ⟨q, f, n, rfl, G1.st.setAt hk, hn, fun ns p h1 h2 h3 hp => ?_⟩
      exact ret (G1.st.newL hp (Reps.ints ns)) s1 (.cel p) (q1 ns p h1 h2 h3)

def pD (x : Int × Int) : D := .tup [.int x.1, .int x.2]
def LexLe (x y : Int × Int) : Prop := x.1 < y.1 ∨ (x.1 = y.1 ∧ x.2 ≤ y.2)
def PairAt (K : PySem.W.Frag) (H : Hp) (x : V) (i : Int × Int) : Prop := ∃ t, x = .ref t ∧ SqT K H t [.int i.1, .int i.2]
def rSortedP2 (K : PySem.W.Frag) : List V → Hp → VK → Prop := fun vs H Q => ∃ (a : Addr) (xs : List V) (ps : List (Int × Int)), vs = [.ref a] ∧ SqL K H a xs ∧ Paired (PairAt K H) xs ps ∧
  ∀ (zs : List (V × (Int × Int))) (p : Addr), zs.Perm (xs.zip ps) → zs.Pairwise (fun x y => LexLe x.2 y.2) → H p = none → Q (.ref p) (upd H p (.lst (zs.map Prod.fst)))
theorem prd_zip {α β : Type} {R : α → β → Prop} {k : α → β} : ∀ {xs : List α} {ps : List β}, Paired R xs ps → (∀ x p, R x p → p = k x) → xs.zip ps = xs.map fun x => (x, k x)
  | _, _, .nil, _ => rfl
  | _, _, .cons h t, g => by
    rw [List.zip_cons_cons, List.map_cons, prd_zip t g, g _ _ h]
theorem prd_mem {α β : Type} {R : α → β → Prop} : ∀ {xs : List α} {ps : List β}, Paired R xs ps → ∀ x ∈ xs, ∃ p, R x p
  | _, _, .nil, x, h => by cases h
  | _, _, .cons h t, x, hx => by
    rcases List.mem_cons.mp hx with rfl | hx
    · exact ⟨_, h⟩
    · exact prd_mem t x hx
/-- the pair that a value is, by the heap's abstract reading (any, where it is none) -/
noncomputable def pairOf (K : PySem.W.Frag) (H : Hp) (x : V) : Int × Int := open Classical in if h : ∃ p, PairAt K H x p then h.choose else (0, 0)
theorem pairOf_at {pins : List (Addr × Obj)} {s : Shared} (I : Inv X pins σ H s) {x : V} {p : Int × Int} (h : PairAt X.K H x p) : p = pairOf X.K H x := by
  have ex : ∃ p', PairAt X.K H x p' := ⟨p, h⟩
  have e : pairOf X.K H x = ex.choose := dif_pos ex
  rw [e]
  obtain ⟨t, e1, h1⟩ := h
  obtain ⟨t', e2, h2⟩ := ex.choose_spec
  rw [e1] at e2
  cases e2
  have z := I.tuple_inj h1 h2
  simp only [List.cons.injEq, V.int.injEq, and_true] at z
  exact Prod.ext z.1 z.2
/-- such a value in the heap -/
theorem pair_held {pins : List (Addr × Obj)} {s : Shared} (I : Inv X pins σ H s) {t : Addr} {p : Int × Int} (h : PairAt X.K H (.ref t) p) : Srt.IsPair s.heap (.ref t) p.1 p.2 := by
  obtain ⟨t', e, g⟩ := h
  cases e
  obtain ⟨its, rr, ⟨o, o1, o2, n, o3⟩, _⟩ := I.tuple g
  obtain ⟨u, u', e', r1, r2⟩ := vals2 rr
  obtain ⟨k1, rfl⟩ := r1
  obtain ⟨k2, rfl⟩ := r2
  rw [e'] at o3
  exact ⟨t, o, k1, k2, n, rfl, o1, o2, o3⟩
theorem cr_sortedP2 : CallR X (.builtin "sorted") (rSortedP2 X.K) := by
  intro pins s σ H args us Q I r h
  obtain ⟨a, xs, ps, rfl, hs, hx, q⟩ := h
  obtain ⟨its, rv, pl, sz⟩ := I.list hs
  obtain rfl := Vals.ref1 r
  have key : ∀ x ∈ xs, PairAt X.K H x (pairOf X.K H x) := fun x m => by
    obtain ⟨p, hp⟩ := prd_mem hx x m
    rw [← pairOf_at I hp]
    exact hp
  obtain ⟨back, refs⟩ := refs_back rv fun x m => (key x m).imp fun _ z => z.1
  have its_sz : its.length ≤ sizeLine := by rw [← rv.length]; exact sz
  refine SrtO.sorted_pairsO (k := pairOf X.K H ∘ backV) pl.isList its_sz ?_ ?_
  · intro u hu
    obtain ⟨t, e⟩ := refs u hu
    subst e
    refine pair_held I (key _ ?_)
    rw [back]
    exact List.mem_map_of_mem hu
  · intro h2 d out srt stb keeps new laid
    obtain ⟨n, laid⟩ := laid
    have prm : (out.map backV).Perm xs := by
      rw [back]
      exact stb.perm.map backV
    have q2 := q ((out.map backV).map fun x => (x, pairOf X.K H x)) d (by rw [prd_zip hx fun _ _ z => pairOf_at I z]; exact prm.map _) (by
      rw [List.pairwise_map, List.pairwise_map]
      refine List.Pairwise.imp (fun {x y} z => ?_) srt
      have z' := SrtO.lexB_no.mp z
      simp only [Function.comp] at z'
      show (pairOf X.K H (backV x)).1 < (pairOf X.K H (backV y)).1 ∨ ((pairOf X.K H (backV x)).1 = (pairOf X.K H (backV y)).1 ∧ (pairOf X.K H (backV x)).2 ≤ (pairOf X.K H (backV y)).2)
      omega) (I.hok.fresh new)
    have e : ((out.map backV).map fun x => (x, pairOf X.K H x)).map Prod.fst = out.map backV := by simp
    rw [e] at q2
    exact ⟨.ref d, upd H d (.lst (out.map backV)), I.laid (t' := s.toks) keeps new ⟨by rw [prm.length_eq]; exact sz, out, n, vals_back fun u m => refs u (stb.perm.mem_iff.mp m), laid⟩, rfl, q2⟩
theorem reps_pairs {K : PySem.W.Frag} (s : Same F H) : ∀ {ps : List (Int × Int)} {vs : List V}, Reps K F vs (ps.map pD) → Paired (PairAt K H) vs ps
  | [], _, h => by cases h; exact .nil
  | p :: ps, _, h => by
    cases h with
    | cons a b =>
      refine .cons ?_ (reps_pairs s b)
      cases a with
      | tup h1 h2 =>
        cases h2 with
        | cons r1 r2 =>
          cases r2 with
          | cons r2 r3 =>
            cases r1; cases r2; cases r3
            exact ⟨_, rfl, Same.tup s h1⟩
theorem reps_zip {K : PySem.W.Frag} {f : Int × Int → D} : ∀ {ps : List (Int × Int)} {vs : List V}, Reps K F vs (ps.map f) → ∀ z ∈ vs.zip ps, Rep K F z.1 (f z.2)
  | [], _, h, z, hz => by simp at hz
  | p :: ps, _, h, z, hz => by
    cases h with
    | cons a b =>
      rw [List.zip_cons_cons] at hz
      rcases List.mem_cons.mp hz with rfl | hz
      · exact a
      · exact reps_zip b z hz
theorem reps_of_mem {K : PySem.W.Frag} {α : Type} {g : α → V} {f : α → D} : ∀ {zs : List α}, (∀ z ∈ zs, Rep K F (g z) (f z)) → Reps K F (zs.map g) (zs.map f)
  | [], _ => .nil
  | z :: zs, h => .cons (h z List.mem_cons_self) (reps_of_mem fun y hy => h y (List.mem_cons_of_mem _ hy))
/-- sorted(xs), xs a list of pairs: a new list, frozen -/
theorem we_sortedP {Q : D → Cells → Prop} (hg : Gl X "sorted") (hm : X.mg "sorted" = none)
    (h : WE X P a δ M fun d M1 => ∃ ps : List (Int × Int), LV M1 d (ps.map pD) ∧ ∀ qs : List (Int × Int), qs.Perm ps → qs.Pairwise LexLe → Q (.lst (qs.map pD)) M1)
    (he : starEach [a] X.env = (false, eval a X.env) :: starEach [] X.env := by rfl) (hpl : (backTo pos (starEach [] X.env)).any (·.1) = false := by rfl) :
    WE X P (.Call (.Name "sorted" p) [a] [] pos) δ M Q :=
  we_of (pe_callB cr_sortedP2 hg hm (by decide +kernel) (pa_cons pe_sem pa_nil he) (by decide) (by decide) he hpl) fun σ H F G =>
    h.go G fun v H1 F1 M1 d s1 G1 r1 q1 => by
      obtain ⟨ps, hl, q1⟩ := q1
      obtain ⟨l, vs, rfl, e1, e2⟩ := G1.st.readL r1 hl
      refine ⟨l, vs, ps, rfl, e1, reps_pairs G1.st.le e2, fun zs p h1 h2 hp => ?_⟩
      have hln : vs.length = ps.length := by rw [e2.length, List.length_map]
      have q2 := q1 (zs.map Prod.snd) (by
        have := h1.map Prod.snd
        rw [List.map_snd_zip (by omega)] at this
        exact this) (List.pairwise_map.mpr h2)
      obtain ⟨S, s2⟩ := G1.st.froz (o := .lst (zs.map Prod.fst)) hp
      refine ret S (s1.trans s2) (.lst (.of upd_same) ?_) q2
      rw [List.map_map]
      exact reps_of_mem fun z hz => (reps_zip e2 z (h1.mem_iff.mp hz)).up s2
end
end PW
/-! PWU -/
namespace PW
open PySem L2 PyProof.Rows
def Small (i : Int) : Prop := i.natAbs ≤ 10 ^ 30
def itemD (x : Int × Int) : D := .tup [.int x.1, .int x.2]
def bookD (xs : List (Int × Int)) : List D := xs.map itemD
def BookOk (xs : List (Int × Int)) : Prop := xs.length ≤ 24 ∧ (∀ x ∈ xs, Small x.1 ∧ Small x.2) ∧ (xs.map Prod.fst).Pairwise (· < ·)
theorem cutD_1 (ds : List D) : cutD ds (some 1) none = ds.drop 1 := by
  unfold cutD
  have e : HT.sIx ds.length 0 (some 1) = min 1 ds.length := by
    show (if (1 : Int) < 0 then ((1 : Int) + (ds.length : Int)).toNat else min (1 : Int).toNat ds.length) = _
    rw [if_neg (by decide)]; rfl
  rw [e]
  show List.take (ds.length - min 1 ds.length) (ds.drop (min 1 ds.length)) = _
  cases ds with
  | nil => rfl
  | cons c cs => simp
theorem all_true {α : Type} (xs : List α) : ∃ bs : List Bool, bs.map D.bl = xs.map (fun _ => D.bl true) ∧ bs.all id = true := ⟨List.replicate xs.length true, by rw [List.map_replicate]; exact (List.map_const' ..).symm, by simp⟩
theorem LV.app {M : Cells} {d : D} {ds : List D} (h : LV M d ds) : ∀ rest : Cells, LV (rest ++ M) d ds
  | [] => h
  | _ :: rest => (LV.app h rest).cons
section
variable {X : Cx} {P : XP} {F : Hp} {M : Cells} {δ : Slots} {σ : L2.St} {H : Hp} {e : Expr}
theorem WE.few {Q : D → Cells → Prop} (h : WE X P e δ M fun d M' => ∃ M0 : Cells, M0.Sublist M' ∧ Q d M0) : WE X P e δ M Q := fun σ H F G => h.go G fun v H1 F1 M1 d s1 G1 r1 q1 => by
  obtain ⟨M0, hs, q⟩ := q1
  exact ret (G1.st.fewer hs) s1 r1 q
theorem wb_drop {b : List Stmt} {E : En} {M0 : Cells} (hM : M0.Sublist M) (h : WB X P b δ M0 E) : WB X P b δ M E := fun σ H F G => h σ H F ⟨G.st.fewer hM, G.tk⟩
end
theorem okDs_book : ∀ xs : List (Int × Int), okDs (bookD xs) = true
  | [] => rfl
  | x :: xs => by
    show (okD (itemD x) && okDs (bookD xs)) = true
    rw [okDs_book xs]
    rfl
theorem lay_book : ∀ xs : List (Int × Int), PyData.canLayAll0 (pys (bookD xs)) = true
  | [] => by simp [bookD, pys, PyData.canLayAll0]
  | x :: xs => by
    show (PyData.canLayAll0 (.tuple [.int x.1, .int x.2] :: pys (bookD xs))) = true
    simp [PyData.canLayAll0, PyData.canLay0, lay_book xs]
theorem dep_book : ∀ xs : List (Int × Int), PyData.depthAll (pys (bookD xs)) ≤ 4
  | [] => by simp [bookD, pys, PyData.depthAll]
  | x :: xs => by
    have := dep_book xs
    show PyData.depthAll (.tuple [.int x.1, .int x.2] :: pys (bookD xs)) ≤ 4
    simp only [PyData.depthAll, PyData.depth]
    omega
theorem shaped_list {xs : List PyData} (h1 : PyData.canLayAll0 xs = true) (h2 : PyData.depthAll xs ≤ 60) : SeqAt.shaped (.list xs) = true := by
  have h3 : PyData.depth (.list xs) ≤ 64 := by simp only [PyData.depth]; omega
  unfold SeqAt.shaped
  rw [Bool.and_eq_true]
  exact ⟨by simp only [PyData.canLay0]; exact h1, decide_eq_true h3⟩
theorem shaped_book (xs : List (Int × Int)) : SeqAt.shaped (.list (pys (bookD xs))) = true := shaped_list (lay_book xs) (Nat.le_trans (dep_book xs) (by decide))
theorem okDs_ints : ∀ xs : List Int, okDs (xs.map D.int) = true
  | [] => rfl
  | x :: xs => by show (true && okDs (xs.map D.int)) = true; rw [okDs_ints xs]; rfl
theorem lay_ints : ∀ xs : List Int, PyData.canLayAll0 (pys (xs.map D.int)) = true ∧ PyData.depthAll (pys (xs.map D.int)) ≤ 4
  | [] => by simp [pys, PyData.canLayAll0, PyData.depthAll]
  | x :: xs => by
    have := lay_ints xs
    show PyData.canLayAll0 (.int x :: pys (xs.map D.int)) = true ∧ PyData.depthAll (.int x :: pys (xs.map D.int)) ≤ 4
    simp only [PyData.depthAll, PyData.depth, PyData.canLayAll0, PyData.canLay0, this.1]
    exact ⟨rfl, by omega⟩
section
variable {X : Cx} {P : XP} {F : Hp} {M : Cells} {δ : Slots} {σ : L2.St} {H : Hp} {a : Expr} {pos p : Pos}
end
theorem CL.imp {M : Cells} {b : Addr} {R R' : List D → (List D → Cells) → Prop} (h : CL M b R) (k : ∀ L f, R L f → R' L f) : CL M b R' := let ⟨i, L, h1, h2⟩ := h; ⟨i, L, h1, k _ _ h2⟩
theorem shaped_ints (xs : List Int) : SeqAt.shaped (.list (pys (xs.map D.int))) = true := shaped_list (lay_ints xs).1 (Nat.le_trans (lay_ints xs).2 (by decide))
end PW
/-! PWV -/
namespace PW
open PySem L2 PyProof.Rows
theorem reps_rg {K : PySem.W.Frag} {F : Hp} (a b : Int) : Reps K F (rgV a b) (rangeD a (b - a).toNat) := by
  unfold rgV rangeD
  exact reps_of_mem fun z _ => .int _
section
variable {X : Cx} {P : XP} {F : Hp} {M : Cells} {δ : Slots} {σ : L2.St} {H : Hp} {e a b c o : Expr} {es : List Expr} {pos pos' p p1 p2 p3 q : Pos}
theorem we_listRg {Q : D → Cells → Prop} (hc : X.calm = true) (hl : Gl X "list") (hlm : X.mg "list" = none) (hg : Gl X "range") (hm : X.mg "range" = none)
    (h : WE X P a δ M fun d M1 => WE X P b δ M1 fun e M2 => ∃ i j, d = .int i ∧ e = .int j ∧ RgOk i j ∧ Q (.lst (rangeD i (j - i).toNat)) M2)
    (na : starEach [a, b] X.env = (false, eval a X.env) :: starEach [b] X.env := by rfl) (nb : starEach [b] X.env = (false, eval b X.env) :: starEach [] X.env := by rfl) (hp : (backTo pos (starEach [b] X.env)).any (·.1) = false := by rfl)
    (nc : starEach [Expr.Call (.Name "range" p) [a, b] [] pos] X.env = (false, eval (Expr.Call (.Name "range" p) [a, b] [] pos) X.env) :: starEach [] X.env := by rfl) :
    WE X P (.Call (.Name "list" p1) [.Call (.Name "range" p) [a, b] [] pos] [] pos') δ M Q :=
  we_of (pe_listRg hc hl hlm (prg_2 hg hm pe_sem pe_sem na nb hp) nc) fun σ H F G => h.go G fun v H1 F1 M1 d s1 G1 r1 q1 => q1.go G1 fun u H2 F2 M2 e s2 G2 r2 q2 => by
    obtain ⟨i, j, rfl, rfl, ok, q2⟩ := q2
    cases r1; cases r2
    refine ⟨i, j, rfl, rfl, ok, fun q hq => ?_⟩
    obtain ⟨S, s3⟩ := G2.st.froz (o := .lst (rgV i j)) hq
    exact ret S ((s1.trans s2).trans s3) (.lst (.of upd_same) (reps_rg i j)) q2
/-- xs * k, xs a list just made -/
theorem we_mulL {Q : D → Cells → Prop} (h : WE X P a δ M fun d M1 => WE X P b δ M1 fun e M2 => ∃ (k : Nat) (p : Addr) (ds : List D) (n : Int), d = .cel p ∧ M2[k]? = some (p, .lst ds) ∧ e = .int n ∧ -(2 ^ 63) ≤ n ∧ n < 2 ^ 63 ∧ ds.length * n.toNat ≤ sizeLine ∧ Q (.lst (List.replicate n.toNat ds).flatten) (M2.eraseIdx k)) : WE X P (.BinOp a .Mult b pos) δ M Q :=
  we_of (pe_op op_rep pe_sem pe_sem) fun σ H F G => h.go G fun v H1 F1 M1 d s1 G1 r1 q1 => q1.go G1 fun u H2 F2 M2 e s2 G2 r2 q2 => by
    obtain ⟨k, p, ds, n, rfl, hk, rfl, h1, h2, h3, q2⟩ := q2
    cases r1; cases r2
    obtain ⟨vs, e1, e2, e3⟩ := G2.st.cellAt (List.mem_of_getElem? hk)
    refine ⟨p, n, vs, rfl, rfl, e1, h1, h2, by rw [e3.length]; exact h3, fun q hq => ?_⟩
    obtain ⟨S, s3⟩ := (G2.st.fewer (List.eraseIdx_sublist M2 k)).froz (o := .lst (List.replicate n.toNat vs).flatten) hq
    exact ret S ((s1.trans s2).trans s3) (.lst (.of upd_same) ((e3.replicate n.toNat).up s3)) q2
/-- lists of ints: the same, or not -/
theorem eqv_ints : ∀ {xs ys : List Int}, PyData.eqv (.list (pys (xs.map D.int))) (.list (pys (ys.map D.int))) = decide (xs = ys)
  | [], [] => rfl
  | [], y :: ys => (decide_eq_false (by simp)).symm
  | x :: xs, [] => (decide_eq_false (by simp)).symm
  | x :: xs, y :: ys => by
    have ih := eqv_ints (xs := xs) (ys := ys)
    by_cases h : x :: xs = y :: ys
    · rw [h, decide_eq_true rfl, PySem.SeqAt.eqv_refl _ (SeqAt.canLay_of_shaped (shaped_ints _))]
    · rw [decide_eq_false h]
      show (PyData.eqv (.int x) (.int y) && PyData.eqv (.list (pys (xs.map D.int))) (.list (pys (ys.map D.int)))) = false
      rw [ih]
      show (decide (x = y) && _) = false
      by_cases h1 : x = y
      · subst h1
        have h2 : ¬ xs = ys := fun z => h (by rw [z])
        simp [h2]
      · simp [h1]
theorem req_ints {d e : D} {xs ys : List Int} {Q : D → Cells → Prop} (h1 : LV M d (xs.map D.int)) (h2 : LV M e (ys.map D.int)) (q : Q (.bl (decide (xs = ys))) M) : REq false d e M Q := by
  have hv : ∀ {d : D} {zs : List Int}, LV M d (zs.map D.int) → PV M d (.list (pys (zs.map D.int))) := fun {d zs} h => by
    rcases h with rfl | ⟨k, a, rfl, h⟩
    · exact .fz (okDs_ints _)
    · exact .cl k h (okDs_ints _)
  refine req_d (hv h1) (hv h2) (shaped_ints _) (shaped_ints _) ?_
  rw [eqv_ints]
  exact q
theorem req_intsN {d e : D} {xs ys : List Int} {Q : D → Cells → Prop} (h1 : LV M d (xs.map D.int)) (h2 : LV M e (ys.map D.int)) (q : Q (.bl (!decide (xs = ys))) M) : REq true d e M Q := by
  have hv : ∀ {d : D} {zs : List Int}, LV M d (zs.map D.int) → PV M d (.list (pys (zs.map D.int))) := fun {d zs} h => by
    rcases h with rfl | ⟨k, a, rfl, h⟩
    · exact .fz (okDs_ints _)
    · exact .cl k h (okDs_ints _)
  refine req_dN (hv h1) (hv h2) (shaped_ints _) (shaped_ints _) ?_
  rw [eqv_ints]
  exact q
end
end PW
/-! PWX -/
namespace PW
open PySem L2 PyProof.Rows
section
variable {X : Cx} {P : XP} {F : Hp} {M : Cells} {δ : Slots} {σ : L2.St} {H : Hp} {e : Expr} {pos : Pos} {E : En}
end
end PW
/-! PWR -/
namespace PW
open PySem L2 PyProof.Rows
mutual
inductive RP (M : Cells) : D → PyData → Prop
  | non : RP M .non .none
  | bl (b : Bool) : RP M (.bl b) (.bool b)
  | int (i : Int) : RP M (.int i) (.int i)
  | str (x : Str) : RP M (.str x) (.str x)
  | tup {ds : List D} {qs : List PyData} : RPs M ds qs → RP M (.tup ds) (.tuple qs)
  | lst {ds : List D} {qs : List PyData} : RPs M ds qs → RP M (.lst ds) (.list qs)
  | cel {k : Nat} {a : Addr} {ds : List D} {qs : List PyData} : M[k]? = some (a, .lst ds) → RPs M ds qs → RP M (.cel a) (.list qs)
inductive RPs (M : Cells) : List D → List PyData → Prop
  | nil : RPs M [] []
  | cons {d : D} {q : PyData} {ds : List D} {qs : List PyData} : RP M d q → RPs M ds qs → RPs M (d :: ds) (q :: qs)
end
theorem RPs.ints {M : Cells} : ∀ ns : List Int, RPs M (ns.map D.int) (ns.map PyData.int)
  | [] => .nil
  | n :: ns => .cons (.int n) (RPs.ints ns)
theorem RP.ofL {M : Cells} {d : D} {ns : List Int} (h : LV M d (ns.map D.int)) : RP M d (.list (ns.map .int)) := by
  rcases h with rfl | ⟨k, a, rfl, e⟩
  · exact .lst (RPs.ints ns)
  · exact .cel e (RPs.ints ns)
section
variable {K : PySem.W.Frag} {F H : Hp} {M : Cells} {δ : Slots} {σ : L2.St}
mutual
theorem Stt.readN (S : Stt K F M δ σ H) : ∀ (q : PyData) (d : D) (v : V), RP M d q → Rep K F v d → Dp K H v q
  | .none, _, _, h, r => by cases h; cases r; exact .non
  | .bool _, _, _, h, r => by cases h; cases r; exact .bl _
  | .int _, _, _, h, r => by cases h; cases r; exact .int _
  | .str _, _, _, h, r => by cases h; cases r; exact .str _
  | .tuple qs, _, _, h, r => by
    cases h with | tup h1 => cases r with | tup a b => exact .tup (Same.tup S.le a) (Stt.readNs S qs _ _ h1 b)
  | .list qs, _, _, h, r => by
    cases h with
    | lst h1 => cases r with | lst a b => exact .lst (S.le.seq a) (Stt.readNs S qs _ _ h1 b)
    | cel e h1 =>
      cases r
      obtain ⟨vs, e1, _, e3⟩ := S.cellAt (List.mem_of_getElem? e)
      exact .lst (.of e1) (Stt.readNs S qs _ _ h1 e3)
  | .dict _, _, _, h, _ => by cases h
theorem Stt.readNs (S : Stt K F M δ σ H) : ∀ (qs : List PyData) (ds : List D) (vs : List V), RPs M ds qs → Reps K F vs ds → DpAll K H vs qs
  | [], _, _, h, r => by cases h; cases r; exact .nil
  | q :: qs, _, _, h, r => by cases h with | cons h1 h2 => cases r with | cons a b => exact .cons (Stt.readN S q _ _ h1 a) (Stt.readNs S qs _ _ h2 b)
end
mutual
theorem dp_noDict : ∀ (d : PyData) (v : V), Dp K H v d → d.hasDict = false
  | .none, _, _ => by simp only [PyData.hasDict]
  | .bool _, _, _ => by simp only [PyData.hasDict]
  | .int _, _, _ => by simp only [PyData.hasDict]
  | .str _, _, _ => by simp only [PyData.hasDict]
  | .list xs, _, h => by cases h with | lst _ a => simp only [PyData.hasDict]; exact dps_noDict xs _ a
  | .tuple xs, _, h => by cases h with | tup _ a => simp only [PyData.hasDict]; exact dps_noDict xs _ a
  | .dict _, _, h => by cases h
theorem dps_noDict : ∀ (ds : List PyData) (vs : List V), DpAll K H vs ds → PyData.hasDictAll ds = false
  | [], _, _ => by simp only [PyData.hasDictAll]
  | d :: ds, _, h => by
    cases h with | cons a b => simp only [PyData.hasDictAll, dp_noDict d _ a, dps_noDict ds _ b]; rfl
end
end
/-- q can be shown, not too long, not too deep -/
structure OkQ (q : PyData) : Prop where
  sh : q.showable = true
  dp : q.depth ≤ 40
  ln : q.shown.length ≤ sizeLine
theorem log_lt {i : Int} (h : i.natAbs < 2 ^ 1920) : i.natAbs.log2 < 1920 := by
  by_cases e : i.natAbs = 0
  · rw [e]; decide
  · exact (Nat.log2_lt e).mpr h
theorem shown_int1 {i : Int} (h : i.natAbs.log2 < 1920) : (PyData.int i).shown.length ≤ 1921 := by
  have e := int_text_length_le (k := 1920) (by decide) h
  show (Str.ofString (toString i)).length ≤ 1921
  rw [PySem.ofString_length]
  exact e
theorem sum_texts : ∀ ns : List Int, (∀ n ∈ ns, n.natAbs.log2 < 1920) → ((PyData.shownAll (ns.map .int)).map (·.length)).sum ≤ 1921 * ns.length
  | [], _ => by simp [PyData.shownAll]
  | n :: ns, h => by
    have h1 := shown_int1 (h n (by simp))
    have h2 := sum_texts ns fun x hx => h x (by simp [hx])
    simp only [List.map_cons, PyData.shownAll, List.sum_cons, List.length_cons]
    omega
theorem ints_text {ns : List Int} (h : ∀ n ∈ ns, n.natAbs.log2 < 1920) : (PyData.list (ns.map .int)).shown.length ≤ 1923 * ns.length + 3 := by
  have h1 := listText_len_le (PyData.shownAll (ns.map .int))
  have h2 := sum_texts ns h
  rw [PyData.shownAll_length, List.length_map] at h1
  simp only [PyData.shown]
  omega
theorem depth_ints : ∀ ns : List Int, PyData.depthAll (ns.map .int) = 0
  | [] => by simp only [List.map_nil, PyData.depthAll]
  | n :: ns => by simp [PyData.depthAll, PyData.depth, depth_ints ns]
theorem okQ_ints {ns : List Int} (h : ∀ n ∈ ns, n.natAbs.log2 < 1920) (hl : ns.length ≤ 4000) : OkQ (.list (ns.map .int)) := by
  refine ⟨?_, ?_, ?_⟩
  · simp only [PyData.showable]; exact PyData.showableAll_ints ns h
  · simp only [PyData.depth, depth_ints]; omega
  · have := ints_text h
    rw [sizeLine_eq]; omega
section
variable {X : Cx} {P : XP} {F : Hp} {M : Cells} {δ : Slots} {σ : L2.St} {H : Hp} {e a b c o : Expr} {es : List Expr} {pos apos cpos p p2 : Pos}
theorem call_reprD (hgd : X.A.guards = some []) (hu : X.A.units + 64 < cLine) : CallR X (.builtin "repr") (fun xs H Q => ∃ v d, xs = [v] ∧ Dp X.K H v d ∧ OkQ d ∧ Q (.str d.shown) H) := by
  intro pins s σ H xs us Q I r h
  obtain ⟨v, d, rfl, hd, ok, q⟩ := h
  obtain ⟨u, rfl, ru⟩ : ∃ u, us = [u] ∧ RelV v u := by
    cases r with | cons a b => cases b; exact ⟨_, rfl, a⟩
  obtain ⟨as, rd⟩ := Dp.reads I d v u hd ru
  have noD := dp_noDict d v hd
  have big : ∀ b : Addr, u = .ref b → wpAny (model X.prog X.w) X.A (call (.builtin "repr") [u]) (EP X pins σ Q) X.xe s := by
    rintro b rfl
    have hd := ok.dp
    exact repr_of_reads' rd ok.sh (PyData.noDict_hsm noD) hgd (by omega) (fun _ _ z => z) (fun h' t tk hk => ⟨.str d.shown, H, I.kept hk, ⟨t, rfl⟩, q⟩) ok.ln
  cases hd with
  | non => cases ru; exact PySem.P.repr_of_none ⟨.str _, H, I.tok _, ⟨_, rfl⟩, by simpa only [PyData.shown] using q⟩
  | bl k => cases ru; exact PySem.P.repr_of_bool ⟨.str _, H, I.tok _, ⟨_, rfl⟩, by simpa only [PyData.shown] using q⟩
  | int i =>
    obtain ⟨t, rfl⟩ := ru
    have hi : i.natAbs.log2 < 1920 := by have := ok.sh; simpa [PyData.showable] using this
    exact PySem.P.repr_of_int hi ⟨.str _, H, I.tok _, ⟨_, rfl⟩, by simpa only [PyData.shown] using q⟩
  | str x =>
    obtain ⟨t, rfl⟩ := ru
    exact PySem.P.repr_of_str (hsz := by have := ok.ln; simpa only [PyData.shown] using this) ⟨.str _, H, I.tok _, ⟨_, rfl⟩, by simpa only [PyData.shown] using q⟩
  | lst _ _ => exact big _ ru
  | tup _ _ => exact big _ ru
/-- repr(e) -/
theorem we_repr {x : Str} {Q : D → Cells → Prop} (hgd : X.A.guards = some []) (hu : X.A.units + 64 < cLine) (hg : Gl X x) (hm : X.mg x = none) (hv : bootBuiltins x = some (.builtin "repr")) (h : WE X P e δ M fun d M1 => ∃ q, RP M1 d q ∧ OkQ q ∧ Q (.str q.shown) M1)
    (hn : x ≠ "__name__" := by decide) (hdb : (x == ("__debug__" : Str)) = false := by decide)
    (he : starEach [e] X.env = (false, eval e X.env) :: starEach [] X.env := by rfl) (hpl : (backTo pos (starEach [] X.env)).any (·.1) = false := by rfl) : WE X P (.Call (.Name x p) [e] [] pos) δ M Q :=
  we_callB (R := fun ds M1 Q => ∃ d q, ds = [d] ∧ RP M1 d q ∧ OkQ q ∧ Q (.str q.shown) M1) (call_reprD hgd hu) (fun k s S r h => by
    obtain ⟨d, q, rfl, h1, h2, z⟩ := h
    obtain ⟨v, rfl, r1⟩ := r.one
    exact ⟨v, q, rfl, S.readN q d v h1 r1, h2, k _ _ (ret S s (.str _) z)⟩) hg hm hv (wa_cons (hs := he) (h.imp fun d M' ⟨q, h1, h2, z⟩ => wa_nil ⟨d, q, rfl, h1, h2, z⟩)) hn hdb he hpl
end
/-- the run of a def within A -/
def RunAt (P : Program) (w : World) (K : PySem.W.Frag) (mg : Str → Option Value) (base : Heap) (CX : CXT) (f : Addr) (fd : FuncData) (ps : List Str) (sp : Sp) (A : Around) : Prop :=
  ∀ (outer : List Env) (s : Shared) (H : Hp) (args : Args) (us : List Value) (vs : List V) (Q : VK) (E : XK), Env0 P w K mg base A outer s H → BindsTo s fd args (ps.zip us) → Vals vs us → sp vs H Q E →
    codeAny (model P w) A (.call (.ref f) args) (CR CX outer P w H s Q E) s
structure FnG (P : Program) (w : World) (K : PySem.W.Frag) (mg : Str → Option Value) (base : Heap) (CX : CXT) (k : Nat) (f : Addr) (fd : FuncData) (ps : List Str) (sp : Sp) : Prop where
  len : ∀ vs H Q E, sp vs H Q E → vs.length = ps.length
  go : ∀ A : Around, A.guards = some [] → Room k A → RunAt P w K mg base CX f fd ps sp A
structure FDG (P : Program) (w : World) (K : PySem.W.Frag) (mg : Str → Option Value) (base : Heap) (k : Nat) (x : Str) (n : Nat) (T : TSp) : Prop where
  mono : Mono T
  ex : ∃ f fd ps, mg x = some (.ref f) ∧ PySem.W.keepIn K (.ref f) = true ∧ ps.length = n ∧ Binds K fd ps [] ∧ FnG P w K mg base (L2.CX P w) k f fd ps (spG K T)
section
variable {P : Program} {w : World} {K : PySem.W.Frag} {mg : Str → Option Value} {base : Heap}
theorem run_at {CX : CXT} {k : Nat} {f : Addr} {od : Option Addr} {osl : Array (Option Value)} {oc dV kV doc pm cdv ct : Value} {an : Option Addr} {name qual : Str} {params : Arguments} {body : List Stmt} {scope : Scope} {N ps : List Str} {sp : Sp} {A : Around}
    (lk : K.lookup f = some ⟨oc, od, .func (PySem.W.fnOf name qual params body scope dV kV doc pm an cdv ct), osl⟩) (hcd : PySem.W.codeIn K cdv qual = true) (S : FnScope N ps scope) (hlen : ∀ vs H Q E, sp vs H Q E → vs.length = ps.length) (room : Room (k + 1) A)
    (hb : ∀ (outer : List Env) (s : Shared) (H : Hp) (vs : List V) (Q : VK) (E : XK), sp vs H Q E → ∃ t, PSs (cxOf CX P w K mg base N qual scope f cdv A outer s H E) body t ∧ t { nx := fun _ H' => Q .non H', rt := Q } (start N vs) H) :
    RunAt P w K mg base CX f (PySem.W.fnOf name qual params body scope dV kV doc pm an cdv ct) ps sp A := by
  intro outer s H args us vs Q E env bnd rel want
  have n1 := hlen _ _ _ _ want
  have inK : K.In s.heap := env.mod.kin.keeps fun b o z => (env.bs b o z).1
  have nolim : s.heap.NoLimit := env.mod.nolimit.keeps fun b o z => (env.bs b o z).1
  refine codeAny_call_function room.depth (inK _ _ lk) rfl S.co S.gen rfl (PySem.W.codeRec_of inK hcd) (bnd _ _ _ _ ?_)
  refine wpAny_newFunctionEnv_cells S.kind (fun (y : Str × Value) hy => ?_) fun env' e' s1 new => ?_
  · rcases S.par y.1 (List.of_mem_zip hy).1 with q | q
    · exact .inl q
    · exact .inr ⟨q, PySem.W.cellsFrom_some _ _ _ (.inl q)⟩
  subst e'
  refine ⟨nolim.keeps new.toInCall.keep, codeAny_func ?_⟩
  obtain ⟨t, ht, hq⟩ := hb outer s H vs Q E want
  refine wpAny_mono (ht.run [] s1 (start N vs) H _ (inv_start S room.hd env n1 rel new) hq) (fun fl s' z => ?_) fun _ _ z => z
  cases fl with
  | ret u => obtain ⟨v, _, H', J, rv, q⟩ := z; exact ⟨v, H', J.os, J.bare, J.base, J.hok, rv, q⟩
  | next => obtain ⟨_, H', J, q⟩ := z; exact ⟨V.non, H', J.os, J.bare, J.base, J.hok, rfl, q⟩
  | brk => obtain ⟨_, _, _, q⟩ := z; exact q.elim
  | cont => obtain ⟨_, _, _, q⟩ := z; exact q.elim
/-- the rule for a def that needs no repr under way -/
theorem fn_okG {x qual : Str} {st : Stmt} {f : Addr} {fd : FuncData} {N ps : List Str} {k n : Nat} {T : TSp} (Fn : L2.Fun K x qual st f fd) (S : FnScope N ps (defScope st)) (hn : ps.length = n) (len : ∀ ds M Q E, T ds M Q E → ds.length = n)
    (body : ∀ (cdv : Value) (A : Around) (outer : List Env) (s : Shared) (H : Hp) (E : XK), (cxF P w K mg base N qual st f cdv A outer s H E).A.guards = some [] → Nice (cxF P w K mg base N qual st f cdv A outer s H E) → Room k (cxF P w K mg base N qual st f cdv A outer s H E).A →
      ∀ ds M (Q : D → Cells → Prop) (X' : Ex → Cells → Prop), T ds M Q X' → WB (cxF P w K mg base N qual st f cdv A outer s H E) (fun x _ M' => X' x M') (defBody st) (startD N ds) M { nx := fun _ M' => Q .non M', rt := Q }) :
    FnG P w K mg base (L2.CX P w) (k + 1) f fd ps (spG K T) := by
  have hlen : ∀ vs H Q E, spG K T vs H Q E → vs.length = ps.length := fun vs H Q E ⟨_, _, _, _, r, t⟩ => by rw [r.length, len _ _ _ _ t, hn]
  refine ⟨hlen, fun A hgd room => ?_⟩
  obtain ⟨oc, od, kV, doc, pm, an, cdv, ct, osl, rfl, lk, hcd⟩ := Fn.ex
  refine run_at lk hcd S hlen room fun outer s H vs Q E want => ?_
  obtain ⟨F, M, ds, S0, r, t⟩ := want
  have tk := takes_of (X := cxF P w K mg base N qual st f cdv A outer s H E) (E := E) rfl rfl rfl rfl
  have nice : Nice (cxF P w K mg base N qual st f cdv A outer s H E) := ⟨rfl, S.nd, passes_of rfl⟩
  have hr : Room k (cxF P w K mg base N qual st f cdv A outer s H E).A := room.deeper _
  refine ⟨_, pss_sem, (body cdv A outer s H E hgd nice hr ds M _ _ t _ H F ⟨S0.start r, _, tk, fun cls d σ' H' ⟨F', M', δ', y, s', S', hx, q⟩ => q cls d F' H' s' S'.bare hx⟩).mono ⟨?_, ?_, fun _ _ ⟨_, _, _, _, _, q⟩ => q.elim, fun _ _ ⟨_, _, _, _, _, q⟩ => q.elim⟩⟩
  · rintro σ' H' ⟨F', _, _, s', S', q⟩; exact q .non F' H' s' S'.bare .non
  · rintro v H' ⟨F', _, _, _, _, s', S', r', q⟩; exact q v F' H' s' S'.bare r'
theorem fd_okG {x qual : Str} {st : Stmt} {f : Addr} {fd : FuncData} {ps : List Str} {k n : Nat} {T : TSp} (Fn : L2.Fun K x qual st f fd) (hm : mg x = some (.ref f)) (hn : ps.length = n) (hb : Binds K fd ps []) (mono : Mono T) (h : FnG P w K mg base (L2.CX P w) k f fd ps (spG K T)) : FDG P w K mg base k x n T :=
  ⟨mono, f, fd, ps, hm, Fn.kp, hn, hb, h⟩
end
section
variable {X : Cx} {P : XP} {F : Hp} {M : Cells} {δ : Slots} {σ : L2.St} {H : Hp} {e a b c o : Expr} {es : List Expr} {pos apos cpos p p2 : Pos}
theorem run_fnG {k : Nat} {f : Addr} {fd : FuncData} {ps : List Str} {sp : Sp} {E : L2.St → XK} {pins : List (Addr × Obj)} {s : Shared} {Q : VK} {us : List Value} {vs : List V} (Fo : FnG X.prog X.w X.K X.mg X.base (L2.CX X.prog X.w) k f fd ps sp) (hgd : X.A.guards = some []) (hr : Room k X.A)
    (hb : Binds X.K fd ps []) (hx : PassesAt (L2.CX X.prog X.w) X σ (E σ)) (I : Inv X pins σ H s) (r : Vals vs us) (h : sp vs H Q (E σ)) : wpAny (model X.prog X.w) X.A (call (.ref f) us) (EP X pins σ Q) X.xe s := by
  have hl : us.length = ps.length := r.length.symm.trans (Fo.len _ _ _ _ h)
  have bd := hb s us I.kIn (by simpa using hl)
  rw [List.append_nil] at bd
  refine wpAny_call (codeAny_mono (Fo.go X.A hgd hr X.stack s H _ us vs Q (E σ) I.env0 bd r h) fun res s' hq => ?_)
  match res, hq with
  | .error z, hq => exact hx pins H s z s' I hq
  | .ok (.ret _), hq => exact I.after hq
  | .ok .next, hq => exact False.elim hq
  | .ok .brk, hq => exact False.elim hq
  | .ok .cont, hq => exact False.elim hq
/-- f(e, ..) of such a def -/
theorem we_callG {x : Str} {k n : Nat} {T : TSp} {Q : D → Cells → Prop} (c : FDG X.prog X.w X.K X.mg X.base k x n T) (hgd : X.A.guards = some []) (hr : Room k X.A) (hg : Gl X x) (h : WA X P (e :: es) δ M fun ds M1 => T ds M1 Q (fun x M' => P x δ M'))
    (hdb : (x == ("__debug__" : Str)) = false := by decide) (he : starEach (e :: es) X.env = (false, eval e X.env) :: starEach es X.env := by rfl) (hpl : (backTo pos (starEach es X.env)).any (·.1) = false := by rfl) : WE X P (.Call (.Name x p) (e :: es) [] pos) δ M Q := by
  obtain ⟨f, fd, ps, hm, hk, hn, hb, Fo⟩ := c.ex
  intro σ H F G pins s I
  obtain ⟨W, tw, hw⟩ := G.tk
  refine wpAny_Call_Name_kw (ld_glob I hg hm ?_ hdb)
  refine PySem.W.callWith_K (h₀ := X.base) I.ok.mod.kin hk (thn (h σ H F G pos pins _ (I.tok _)) fun us s1 ⟨vs, H1, I1, r, F1, M1, ds, s1', S1, r1, q1⟩ => ⟨I1.kIn, ?_⟩) he hpl
  refine run_fnG (E := fun σ cls d H => W cls d σ H) Fo hgd hr hb (passAt tw σ) I1 r ⟨F1, M1, ds, S1.bare, r1, c.mono _ _ _ _ _ _ (fun d M' q v F' H' s' S' r' => ?_) (fun y M' q cls d F' H' s' S' hx => ?_) q1⟩
  · exact ret (S'.keep S1 s') (s1'.trans s') r' q
  · exact hw cls d σ H' ⟨F', M', δ, y, s1'.trans s', S'.keep S1 s', hx, q⟩
end
section
variable {P : Program} {w : World} {K : PySem.W.Frag} {mg mb : Str → Option Value} {CX : CXT} {fa a : Addr} {fd : FuncData} {x : Str} {sp : Sp} {s₁ : Shared} {vs : List Value} {ns : List Int}
end
end PW
/-! PWQ -/
set_option exponentiation.threshold 100000
namespace PW
open PySem L2 PyProof.Rows
/-- can be shown: fewer than 4301 digits -/
def Big (n : Int) : Prop := n.natAbs < 10 ^ 4300
theorem big_of {n : Int} {k : Nat} (h : n.natAbs ≤ 2 ^ k) (hk : k < 12900) : Big n := by
  have a : (2 : Nat) ^ k < 2 ^ 12900 := Nat.pow_lt_pow_right (by decide) hk
  exact Nat.lt_of_lt_of_le (Nat.lt_of_le_of_lt h a) pow_lo
section
variable {prog : Program} {w : World}
theorem big_reprK {h₀ : Heap} {a : Int} {t : Tok} (hn : h₀.NoDigits) (ha : Big a) (as : List Addr) (d : Nat) : ReprK prog w as h₀ d (.int a t) (toString a) := by
  intro base hb A g E s Q _ _ hu hk hQ
  rw [pyReprUnder_leaf (v := .int a t) (by omega) (fun _ e => nomatch e)]
  unfold pyRepr
  refine wpAny_bind (wpAny_pyReprObj_slot (by omega) (typeIs_int s a t) F.slot_int_repr.toG ?_)
  refine wpAny_call (codeAny_call_builtin F.slot_int_repr.plain F.entry_int_repr (F.slot_int_repr.check _ _ _ _ _ _ _ _ (typeIs_int s a t) (F.args_int_repr_1 _) ?_))
  unfold Builtin.«int.__repr__»
  show wpAny _ _ (do let r ← Builtin.overDigitLimit? a; _) _ _ s
  refine wpAny_bind (overDigitLimit_any (hn.keeps hk) (fun _ => ?_) (fun z => absurd ha (Nat.not_lt.mpr z)))
  exact wpAny_bind (wpAny_mkStr (wpAny_pure ⟨_, _, rfl, wpAny_pure (hQ s.heap _ fun _ _ e => e)⟩) (int_text_fits10 ha))
end
theorem readsAll_ints {h : Heap} : ∀ (ns : List Int) (l : List Value) (as : List Addr), ReadsAll h l (ns.map .int) as → l.length = ns.length ∧ ∀ (i : Nat) (y : Value), l[i]? = some y → ∃ n t, ns[i]? = some n ∧ y = .int n t
  | [], l, as, r => by cases r; exact ⟨rfl, fun i y e => by simp at e⟩
  | n :: ns, l, as, r => by
    cases r with
    | cons r1 r2 =>
      obtain ⟨e1, e2⟩ := readsAll_ints ns _ _ r2
      cases r1
      refine ⟨by simp [e1], fun i y e => ?_⟩
      cases i with
      | zero => simp at e; exact ⟨n, _, rfl, e.symm⟩
      | succ i => exact e2 i y (by simpa using e)
theorem shownAll_ints : ∀ ns : List Int, PyData.shownAll (ns.map .int) = ns.map fun n => (toString n : Str)
  | [] => by simp only [List.map_nil, PyData.shownAll]
  | n :: ns => by simp only [List.map_cons, PyData.shownAll, PyData.shown, shownAll_ints ns]
theorem sum_bigs : ∀ ns : List Int, (∀ n ∈ ns, Big n) → ((ns.map fun n => (toString n : Str)).map (·.length)).sum ≤ 4301 * ns.length
  | [], _ => by simp
  | n :: ns, h => by
    have h2 := sum_bigs ns fun x hx => h x (List.mem_cons_of_mem _ hx)
    have e := int_text_length_le10 (k := 4300) (by decide) (h n (List.mem_cons_self ..))
    have h1 : (Str.ofString (toString n)).length ≤ 4301 := by rw [PySem.ofString_length]; exact e
    simp only [List.map_cons, List.sum_cons, List.length_cons]
    show (Str.ofString (toString n)).length + _ ≤ _
    omega
theorem bigs_text {ns : List Int} (h : ∀ n ∈ ns, Big n) (hl : ns.length ≤ 200) : (listText (PyData.shownAll (ns.map .int))).length ≤ sizeLine := by
  rw [shownAll_ints]
  have h1 := listText_len_le (ns.map fun n => (toString n : Str))
  have h2 := sum_bigs ns h
  rw [List.length_map] at h1
  rw [sizeLine_eq]
  omega
section
variable {X : Cx} {P : XP} {F : Hp} {M : Cells} {δ : Slots} {σ : L2.St} {H : Hp} {e : Expr} {pos p : Pos}
theorem call_reprB (hgd : X.A.guards = some []) (hu : X.A.units + 64 < cLine) (hnd : X.base.NoDigits) :
    CallR X (.builtin "repr") (fun xs H Q => ∃ (v : V) (ns : List Int), xs = [v] ∧ Dp X.K H v (.list (ns.map .int)) ∧ (∀ n ∈ ns, Big n) ∧ ns.length ≤ 200 ∧ Q (.str (PyData.list (ns.map .int)).shown) H) := by
  intro pins s σ H xs us Q I r h
  obtain ⟨v, ns, rfl, hd, hb, hl, q⟩ := h
  obtain ⟨u, rfl, ru⟩ : ∃ u, us = [u] ∧ RelV v u := by
    cases r with | cons a b => cases b; exact ⟨_, rfl, a⟩
  obtain ⟨as, rd⟩ := Dp.reads I _ v u hd ru
  have hs : s.heap.NoDigits := hnd.keeps fun b o z => (I.env0.bs b o z).1
  have hz := bigs_text hb hl
  have fin : ∀ h' tk t, (∀ b o, s.heap.get? b = some o → h'.get? b = some o) → EP X pins σ Q (.str (listText (PyData.shownAll (ns.map .int))) t) { s with heap := h', toks := tk } := fun h' tk t hk =>
    ⟨.str (PyData.list (ns.map .int)).shown, H, I.kept hk, ⟨t, by simp only [PyData.shown]⟩, q⟩
  cases rd with
  | list h1 h2 h3 h4 =>
    rename_i a o vs n as1
    obtain ⟨e1, e2⟩ := readsAll_ints ns _ _ h4
    obtain ⟨l⟩ := vs
    cases l with
    | nil =>
      have : ns = [] := List.length_eq_zero_iff.mp e1.symm
      subst this
      refine call_repr_slot (by omega) ⟨o, h1, h2⟩ F.slot_list_repr.toG (call_list_repr_empty ⟨o, h1, h2⟩ h1 h3 ⟨_, _, rfl, ?_⟩)
      exact fin s.heap _ _ fun _ _ e => e
    | cons x l =>
      refine call_repr_slot (by omega) ⟨o, h1, h2⟩ F.slot_list_repr.toG (call_list_reprK (as := []) (d := 0) (ts := PyData.shownAll (ns.map .int)) (g := []) h1 h2 h3 (by simp) ?_ (fun i y e => ?_) hgd (fun b _ => Clear.nil b) ?_ (fun _ _ z => z) (fun h' u tk hk => ⟨_, _, rfl, fin h' tk u hk⟩) hz)
      · rw [PyData.shownAll_length, List.length_map]
        simpa using e1.symm
      · obtain ⟨m, t, g1, rfl⟩ := e2 i y (by simpa using e)
        refine ⟨_, by rw [shownAll_ints, List.getElem?_map, g1]; rfl, big_reprK hs (hb m (List.mem_of_getElem? g1)) _ _⟩
      · show X.A.units + 1 + (0 + 1) < cLine
        omega
/-- repr(e), a list of integers -/
theorem we_reprL {x : Str} {Q : D → Cells → Prop} (hgd : X.A.guards = some []) (hu : X.A.units + 64 < cLine) (hnd : X.base.NoDigits) (hg : Gl X x) (hm : X.mg x = none) (hv : bootBuiltins x = some (.builtin "repr")) (h : WE X P e δ M fun d M1 => ∃ ns : List Int, LV M1 d (ns.map D.int) ∧ (∀ n ∈ ns, Big n) ∧ ns.length ≤ 200 ∧ Q (.str (PyData.list (ns.map .int)).shown) M1)
    (hn : x ≠ "__name__" := by decide) (hdb : (x == ("__debug__" : Str)) = false := by decide)
    (he : starEach [e] X.env = (false, eval e X.env) :: starEach [] X.env := by rfl) (hpl : (backTo pos (starEach [] X.env)).any (·.1) = false := by rfl) : WE X P (.Call (.Name x p) [e] [] pos) δ M Q :=
  we_callB (R := fun ds M1 Q => ∃ (d : D) (ns : List Int), ds = [d] ∧ LV M1 d (ns.map D.int) ∧ (∀ n ∈ ns, Big n) ∧ ns.length ≤ 200 ∧ Q (.str (PyData.list (ns.map .int)).shown) M1) (call_reprB hgd hu hnd) (fun k s S r h => by
    obtain ⟨d, ns, rfl, h1, h2, h3, z⟩ := h
    obtain ⟨v, rfl, r1⟩ := r.one
    exact ⟨v, ns, rfl, S.readN _ d v (RP.ofL h1) r1, h2, h3, k _ _ (ret S s (.str _) z)⟩) hg hm hv (wa_cons (hs := he) (h.imp fun d M' ⟨ns, h1, h2, h3, z⟩ => wa_nil ⟨d, ns, rfl, h1, h2, h3, z⟩)) hn hdb he hpl
end
section
variable {P : Program} {w : World} {K : PySem.W.Frag} {mg mb : Str → Option Value} {CX : CXT} {fa a : Addr} {fd : FuncData} {x : Str} {sp : Sp} {s₁ : Shared} {vs : List Value} {ns : List Int}
/-- at an abstract heap H of which the script alone is a part -/
theorem law_inD {H : Hp} (KX : K.In s₁.heap) (hns : s₁.heap.Ns mainGlobals mg) (hb : s₁.heap.Ns builtinsNs mb) (hbb : ∀ x : Str, x ≠ "__name__" → mb x = bootBuiltins x) (hlim : s₁.heap.NoLimit) (hdg : s₁.heap.NoDigits) (hg : s₁.gens = #[])
    (ha : s₁.heap.get? a = some { cls := .type "list", data := .seq vs.toArray }) (R : ∀ base : Heap, K.In base → base.Ns mainGlobals mg → base.NoDigits → RunAt P w K mg base CX fa fd [x] sp callerA) (hbind : ∀ (s : Shared) (u : Value), BindsTo s fd ⟨[u], []⟩ [(x, u)])
    (want : sp [.ref a] H (fun v _ => v = .bl true) fun _ _ _ => False) (hCX : ∀ H e s', CX [] H s₁ (fun _ _ _ => False) e s' → False)
    (ok : HOk P w H s₁.heap) (one : ∀ b u, H b = some u → b = a ∧ ∃ o xs, u = .frz o (.lst xs)) (apart : H a ≠ none → K.lookup a = none) :
    codeAny (model P w) callerA (.call (.ref fa) ⟨[.ref a], []⟩) (fun r s' => r = .ok (.ret (.bool true)) ∧ OldK s₁.heap s'.heap ∧ s'.os = s₁.os ∧ AllBare s'.gens) s₁ := by
  have off : ∀ b o, s₁.heap.get? b = some o → (b = a → H a = none) → (hidT s₁.heap H).get? b = some o := fun b o z n => hidT_get z (by
    match q : H b with
    | none => rfl
    | some u => obtain ⟨rfl, _⟩ := one b u q; rw [n rfl] at q; cases q)
  have nsK : ∀ b m, s₁.heap.Ns b m → (hidT s₁.heap H).Ns b m := fun b m ⟨o, es, ep, z, d, r⟩ => ⟨o, es, ep, off b o z (fun q => by
    subst q; rw [ha] at z; cases z; cases d), d, r⟩
  have inB : K.In (hidT s₁.heap H) := fun b o z => off b o (KX b o z) fun q => by
    subst q
    match q2 : H b with
    | none => rfl
    | some u => rw [apart (by rw [q2]; simp)] at z; cases z
  have md : Mod K mg (hidT s₁.heap H) := ⟨inB, nsK _ _ hns, ⟨mb, nsK _ _ hb, hbb⟩, let ⟨mc, h1, h2⟩ := hlim; ⟨mc, nsK _ _ h1, h2⟩⟩
  have env : Env0 P w K mg (hidT s₁.heap H) callerA [] s₁ H := ⟨rfl, md, fun _ _ z => of_hidT z, Nat.le_of_eq (hidT_size _ _), trivial, fun b z => absurd (show b ∈ ([] : List Addr) from z) (by simp), ok, .of_eq hg⟩
  refine codeAny_mono (R _ inB (nsK _ _ hns) (let ⟨mc, h1, h2⟩ := hdg; ⟨mc, nsK _ _ h1, h2⟩) [] s₁ H _ [.ref a] [.ref a] _ _ env (hbind s₁ (.ref a)) (.cons rfl .nil) want) fun r s' z => ?_
  match r, z with
  | .error e, z => exact (hCX H e s' z).elim
  | .ok .next, z => exact False.elim z
  | .ok .brk, z => exact False.elim z
  | .ok .cont, z => exact False.elim z
  | .ok (.ret u), ⟨v, H', os, bare, un, ok', rv, q⟩ =>
    obtain rfl : v = .bl true := q
    obtain rfl : u = Value.bool true := rv
    refine ⟨rfl, OldK.of_keep fun b o z => ?_, os, bare⟩
    match q : H b with
    | none => exact un.keep b o z q (fun y => absurd (show b ∈ ([] : List Addr) from y) (by simp)) (by simp)
    | some u =>
      obtain ⟨_, ob, xs, rfl⟩ := one b u q
      obtain ⟨e1, _⟩ := ok b _ q
      obtain ⟨e2, _⟩ := ok' b _ (un.frzs b ob _ q)
      rw [z] at e1
      cases e1
      exact e2
theorem law_runsD (KX : K.In s₁.heap) (hns : s₁.heap.Ns mainGlobals mg) (hb : s₁.heap.Ns builtinsNs mb) (hbb : ∀ x : Str, x ≠ "__name__" → mb x = bootBuiltins x) (hlim : s₁.heap.NoLimit) (hdg : s₁.heap.NoDigits) (hg : s₁.gens = #[])
    (ha : s₁.heap.get? a = some { cls := .type "list", data := .seq vs.toArray }) (hi : IntsAre vs ns) (hl : ns.length ≤ sizeLine) (R : ∀ base : Heap, K.In base → base.Ns mainGlobals mg → base.NoDigits → RunAt P w K mg base CX fa fd [x] sp callerA) (hbind : ∀ (s : Shared) (u : Value), BindsTo s fd ⟨[u], []⟩ [(x, u)])
    (hsp : ∀ H : Hp, SqL K H a (ns.map V.int) → sp [.ref a] H (fun v _ => v = .bl true) fun _ _ _ => False) (hCX : ∀ H e s', CX [] H s₁ (fun _ _ _ => False) e s' → False) :
    codeAny (model P w) callerA (.call (.ref fa) ⟨[.ref a], []⟩) (fun r s' => r = .ok (.ret (.bool true)) ∧ OldK s₁.heap s'.heap ∧ s'.os = s₁.os ∧ AllBare s'.gens) s₁ := by
  have rv := vals_ints hi
  cases hk : K.lookup a with
  | some o =>
    have z := KX a o hk
    rw [ha] at z
    cases z
    refine law_inD (H := fun _ => none) KX hns hb hbb hlim hdg hg ha R hbind (hsp _ (.inr ⟨_, vs.toArray, _, hk, rfl, rfl, rfl, ?_, by simpa using rv⟩)) hCX (fun _ _ y => nomatch y) (fun _ _ y => nomatch y) fun y => absurd rfl y
    rw [List.size_toArray, hi.length]
    exact hl
  | none =>
    have at_a : ∀ (b : Addr) (u : HO), (if b = a then some (HO.frz { cls := .type "list", data := .seq vs.toArray } (.lst (ns.map V.int))) else none) = some u → b = a ∧ u = .frz { cls := .type "list", data := .seq vs.toArray } (.lst (ns.map V.int)) := fun b u y => by
      split at y
      · cases y; exact ⟨by assumption, rfl⟩
      · cases y
    refine law_inD (H := fun b => if b = a then some (.frz { cls := .type "list", data := .seq vs.toArray } (.lst (ns.map V.int))) else none) KX hns hb hbb hlim hdg hg ha R hbind (hsp _ (.inl (.inr ⟨_, if_pos rfl⟩))) hCX (fun b u y => ?_) (fun b u y => ?_) fun _ => hk
    · obtain ⟨rfl, rfl⟩ := at_a b u y
      exact ⟨ha, by rw [List.length_map]; exact hl, vs, _, rv, ha⟩
    · obtain ⟨h1, h2⟩ := at_a b u y
      exact ⟨h1, _, _, h2⟩
/-- the head of a law whose def needs no repr under way and the usual limit of digits -/
theorem walk_GD {l : PySem.W.OpenLaw} {k : Nat} {q : Program} {loose : List Str} {XP : (Str → Option Value) → Heap → Prop} {YP : World → Heap → Prop} {d : DefRec} {K : Params → PySem.W.Frag} {T : TSp} {x : Str}
    (hn : l.most = some 63) (hdf : d.params.defaults = []) (hr : Room k callerA) (hY : ∀ (w : World) (h : Heap), YP w h → (K w.params).In h)
    (F : ∀ (w : World) (mg : Str → Option Value) (fa : Addr) (h : Heap), (K w.params).In h → h.Ns mainGlobals mg → mg d.name = some (.ref fa) →
      ∃ fd : FuncData, (∀ (s : Shared) (u : Value), BindsTo s fd ⟨[u], []⟩ [(x, u)]) ∧ ∀ base : Heap, (K w.params).In base → base.Ns mainGlobals mg → base.NoDigits → FnG l.prog w (K w.params) mg base (L2.CX l.prog w) k fa fd [x] (spG (K w.params) T))
    (hsp : ∀ (w : World) (H : Hp) (a : Addr) (ns : List Int), ns.length ≤ 63 → SqL (K w.params) H a (ns.map V.int) → spG (K w.params) T [.ref a] H (fun v _ => v = .bl true) fun _ _ _ => False) :
    PySem.W.WalkO q loose XP YP l.row.toRowW d [] (fun f vs => PySem.call f vs) := by
  refine Att.attach_call hn hdf fun w s₀ s₁ mg mb fa o pm cd doc a vs ns G Y ho hd hcd hmg hobj hints hlen hg => ?_
  obtain ⟨fd, hb, hF⟩ := F w mg fa _ (hY w _ Y) G.T.g hmg
  refine law_runsD (hY w _ Y) G.T.g G.T.b G.T.builtins G.T.nolimit G.T.nodigits hg hobj hints (Nat.le_trans hlen (by decide)) (fun base h1 h2 h3 => (hF base h1 h2 h3).go callerA rfl hr) hb (fun H hS => hsp w H a ns hlen hS) fun H e s' z => ?_
  obtain ⟨_, _, _, _, _, _, _, _, _, _, _, _, y⟩ := z
  exact y
end
end PW
/-! PWP -/
set_option exponentiation.threshold 100000
namespace PW
open PySem L2 PyProof.Rows
section
variable {X : Cx} {P : XP} {F : Hp} {M : Cells} {δ : Slots} {σ : L2.St} {H : Hp} {e : Expr} {pos p : Pos}
end
end PW
/-! PWO -/
namespace PW
open PySem L2 PyProof.Rows
section
variable {X : Cx} {P : XP} {F : Hp} {M : Cells} {δ : Slots} {σ : L2.St} {H : Hp} {a b : Expr} {pos p : Pos}
theorem lift_notBl : Lift2 X (fun x y H Q => ∃ a b, x = .bl a ∧ y = .bl b ∧ Q (.bl (!decide (a = b))) H) (fun d e M Q => ∃ a b, d = .bl a ∧ e = .bl b ∧ Q (.bl (!decide (a = b))) M) := fun k s S r1 r2 h => by
  obtain ⟨i, j, rfl, rfl, q⟩ := h
  cases r1; cases r2
  exact ⟨i, j, rfl, rfl, k _ _ (ret S s (.bl _) q)⟩
/-- a is not b, both truth values -/
theorem wt_notBl {Q : Bool → Cells → Prop} (h : WE X P a δ M fun d M1 => WE X P b δ M1 fun e M2 => ∃ i j, d = .bl i ∧ e = .bl j ∧ Q (!decide (i = j)) M2) (hm : behindInMarks .IsNot b = false := by rfl) : WT X P (.Compare a [.IsNot] [b] pos) δ M Q :=
  wt_cmp op_isnot_bl lift_notBl hm (h.imp fun d M1 q => q.imp fun e M2 ⟨i, j, h1, h2, q⟩ => ⟨i, j, h1, h2, _, rfl, q⟩)
end
end PW
/-! PWL -/
set_option exponentiation.threshold 100000
namespace PW
open PySem L2 PyProof.Rows
section
variable {X : Cx} {P : XP} {F : Hp} {M : Cells} {δ : Slots} {σ : L2.St} {H : Hp} {a b e : Expr} {pos p : Pos}
end
end PW
/-! PWD -/
namespace PW
open PySem L2 PyProof.Rows
abbrev FunQ (K : PySem.W.Frag) (x qual : Str) (st : Stmt) (dvs : List V) (f : Addr) (fd : FuncData) : Prop := L2.FunD K x qual (defArgs st) (defBody st) (defScope st) dvs [] f fd
/-- es: the defaults that fill up -/
structure FDd (P : Program) (w : World) (K : PySem.W.Frag) (mg : Str → Option Value) (base : Heap) (k : Nat) (x : Str) (n : Nat) (es : List D) (T : TSp) : Prop where
  mono : Mono T
  ex : ∃ f fd ps ds dvs, mg x = some (.ref f) ∧ PySem.W.keepIn K (.ref f) = true ∧ ps.length = n ∧ Binds K fd ps ds ∧ Vals dvs ds ∧ (∀ F, Reps K F dvs es) ∧ FnOk P w K mg base (L2.CX P w) k f fd ps (spG K T)
section
variable {P : Program} {w : World} {K : PySem.W.Frag} {mg : Str → Option Value} {base : Heap}
/-- the rule for a def with defaults -/
theorem fn_okQ {x qual : Str} {st : Stmt} {dvs : List V} {f : Addr} {fd : FuncData} {N ps : List Str} {k n : Nat} {T : TSp} (Fn : FunQ K x qual st dvs f fd) (S : FnScope N ps (defScope st)) (hn : ps.length = n) (len : ∀ ds M Q E, T ds M Q E → ds.length = n)
    (body : ∀ (cdv : Value) (A : Around) (outer : List Env) (s : Shared) (H : Hp) (E : XK), Nice (cxF P w K mg base N qual st f cdv A outer s H E) → Room k (cxF P w K mg base N qual st f cdv A outer s H E).A →
      ∀ ds M (Q : D → Cells → Prop) (X' : Ex → Cells → Prop), T ds M Q X' → WB (cxF P w K mg base N qual st f cdv A outer s H E) (fun x _ M' => X' x M') (defBody st) (startD N ds) M { nx := fun _ M' => Q .non M', rt := Q }) :
    FnOk P w K mg base (L2.CX P w) (k + 1) f fd ps (spG K T) := by
  refine Fn.ok S (fun vs H Q E ⟨F, M, ds, S', r, t⟩ => by rw [r.length, len _ _ _ _ t, hn]) fun cdv A outer s H vs Q E hr h => ?_
  obtain ⟨F, M, ds, S0, r, t⟩ := h
  have tk := takes_of (X := cxF P w K mg base N qual st f cdv A outer s H E) (E := E) rfl rfl rfl rfl
  have nice : Nice (cxF P w K mg base N qual st f cdv A outer s H E) := ⟨rfl, S.nd, passes_of rfl⟩
  refine ⟨_, pss_sem, (body cdv A outer s H E nice hr ds M _ _ t _ H F ⟨S0.start r, _, tk, fun cls d σ' H' ⟨F', M', δ', y, s', S', hx, q⟩ => q cls d F' H' s' S'.bare hx⟩).mono ⟨?_, ?_, fun _ _ ⟨_, _, _, _, _, q⟩ => q.elim, fun _ _ ⟨_, _, _, _, _, q⟩ => q.elim⟩⟩
  · rintro σ' H' ⟨F', _, _, s', S', q⟩; exact q .non F' H' s' S'.bare .non
  · rintro v H' ⟨F', _, _, _, _, s', S', r', q⟩; exact q v F' H' s' S'.bare r'
theorem fd_okQ {x qual : Str} {st : Stmt} {dvs : List V} {f : Addr} {fd : FuncData} {ps : List Str} {k n : Nat} {T : TSp} (Fn : FunQ K x qual st dvs f fd) (hm : mg x = some (.ref f)) (hn : ps.length = n) (hb : ∃ ds, Vals (dvs.drop dvs.length) ds ∧ Binds K fd ps ds) (mono : Mono T) (h : FnOk P w K mg base (L2.CX P w) k f fd ps (spG K T)) : FD P w K mg base k x n T := by
  obtain ⟨ds, r, b⟩ := hb
  rw [List.drop_length] at r
  cases r
  exact ⟨mono, f, fd, ps, hm, Fn.kp, hn, b, h⟩
theorem fdd_ok {x qual : Str} {st : Stmt} {dvs : List V} {f : Addr} {fd : FuncData} {ps : List Str} {k n j : Nat} {es : List D} {T : TSp} (Fn : FunQ K x qual st dvs f fd) (hm : mg x = some (.ref f)) (hn : ps.length = n) (hb : ∃ ds, Vals (dvs.drop j) ds ∧ Binds K fd ps ds) (he : ∀ F, Reps K F (dvs.drop j) es) (mono : Mono T) (h : FnOk P w K mg base (L2.CX P w) k f fd ps (spG K T)) : FDd P w K mg base k x n es T := by
  obtain ⟨ds, r, b⟩ := hb
  exact ⟨mono, f, fd, ps, ds, _, hm, Fn.kp, hn, b, r, he, h⟩
/-- one default, an integer or None -/
theorem funQ_int {x qual : Str} {st : Stmt} {f T : Addr} {oc kV doc pm cdv ct : Value} {od an : Option Addr} {osl : Array (Option Value)} {o : Obj} {i : Int} {t : Tok} {n : Nat}
    (l : K.lookup f = some ⟨oc, od, .func (PySem.W.fnOf x qual (defArgs st) (defBody st) (defScope st) (.ref T) kV doc pm an cdv ct), osl⟩) (lT : K.lookup T = some o) (oT : o.data = .seq #[.int i t] n) (c : PySem.W.codeIn K cdv qual = true) (k : PySem.W.keepIn K (.ref f) = true) :
    FunQ K x qual st [.int i] f (PySem.W.fnOf x qual (defArgs st) (defBody st) (defScope st) (.ref T) kV doc pm an cdv ct) :=
  ⟨⟨oc, od, .ref T, kV, doc, pm, an, cdv, ct, osl, rfl, l, c, .inr ⟨by simp, T, o, [.int i t], n, rfl, lT, oT, .cons ⟨t, rfl⟩ .nil⟩, .inl rfl⟩, k⟩
end
section
variable {X : Cx} {P : XP} {F : Hp} {M : Cells} {δ : Slots} {σ : L2.St} {H : Hp} {e a b c o : Expr} {es : List Expr} {pos apos cpos p p2 : Pos}
/-- f(e, ..), the rest by defaults -/
theorem we_callD {x : Str} {k n : Nat} {dfl : List D} {T : TSp} {Q : D → Cells → Prop} (c : FDd X.prog X.w X.K X.mg X.base k x n dfl T) (hr : Room k X.A) (hg : Gl X x) (h : WA X P (e :: es) δ M fun ds M1 => T (ds ++ dfl) M1 Q (fun x M' => P x δ M'))
    (hdb : (x == ("__debug__" : Str)) = false := by decide) (he : starEach (e :: es) X.env = (false, eval e X.env) :: starEach es X.env := by rfl) (hpl : (backTo pos (starEach es X.env)).any (·.1) = false := by rfl) : WE X P (.Call (.Name x p) (e :: es) [] pos) δ M Q := by
  obtain ⟨f, fd, ps, dw, dvs, hm, hk, hn, hb, hv, hD, Fo⟩ := c.ex
  intro σ H F G
  obtain ⟨W, tw, hw⟩ := G.tk
  intro pins s I
  refine (pe_callSD Fo hr hg hm hk hb hv (E := fun σ cls d H => W cls d σ H) (fun σ => passAt tw σ) pa_sem hdb he hpl).run pins s σ H _ I ?_
  refine h.go G fun vs H1 F1 M1 ds s1 G1 r1 q1 => ⟨F1, M1, ds ++ dfl, G1.st.bare, r1.append (hD F1), c.mono _ _ _ _ _ _ (fun d M' q v F' H' s' S' r' => ?_) (fun y M' q cls d F' H' s' S' hx => ?_) q1⟩
  · exact ret (S'.keep G1.st s') (s1.trans s') r' q
  · exact hw cls d σ H' ⟨F', M', δ, y, s1.trans s', S'.keep G1.st s', hx, q⟩
end
end PW
/-! PWE -/
namespace PW
open PySem L2 PyProof.Rows
/-- an own error class whose __init__ stands at fI -/
structure ExcI (K : PySem.W.Frag) (mg : Str → Option Value) (x : Str) (C fI : Addr) (fs : List Str) : Prop where
  g : mg x = some (.ref C)
  T : L2.OexC K C
  F : L2.XfC K C
  iC : PySem.W.findIn K (.ref C) "__init__" = some (some (.ref fI))
  tI : PySem.W.typeIn K (.ref fI) = some (.type "function")
  no : ∀ f ∈ fs, PySem.W.findIn K (.ref C) f = some none
  e : PySem.W.exmOne K (.ref C) (.ref C) = some true
/-- the base class, which has no __init__ of its own -/
structure BasI (K : PySem.W.Frag) (mg : Str → Option Value) (x : Str) (C : Addr) (mc : Value) : Prop where
  g : mg x = some (.ref C)
  a : PySem.W.specialIn K (.ref C) "__getattribute__" = some (some (.builtin "type.__getattribute__"))
  r : PySem.W.readsIn K C mc = true
  v : PySem.W.findCls K (.ref C) mc "__init__" = some (.val (.builtin "ValueError.__init__"))
def spIni2 (C : Addr) (f1 f2 : Str) : Sp := fun vs H Q _ => ∃ (a : Addr) (v1 v2 : V), vs = [.ref a, v1, v2] ∧ H a = some (exo a C none) ∧ ∀ dx, H dx = none → dx ≠ a → Q .non (upd (upd (upd H dx (exd dx [(f1, v1)])) a (exo a C (some dx))) dx (exd dx [(f2, v2), (f1, v1)]))
section
variable {X : Cx} {P : XP} {F : Hp} {M : Cells} {δ : Slots} {σ : L2.St} {H : Hp} {e e1 e2 : Expr} {es : List Expr} {pos p : Pos} {E : En} {R : Ex → Cells → Prop}
/-- C(e1, e2) -/
theorem wm_ini2 {x : Str} {C fI : Addr} {f1 f2 : Str} {fd : FuncData} {ps : List Str} (c : ExcI X.K X.mg x C fI [f1, f2]) (Fi : FnOk X.prog X.w X.K X.mg X.base (L2.CX X.prog X.w) 1 fI fd ps (spIni2 C f1 f2)) (hb : Binds X.K fd ps []) (hr : Room 2 X.A) (hg : Gl X x)
    (h : WA X P [e1, e2] δ M fun ds M' => ∃ i j : Int, ds = [.int i, .int j] ∧ R ⟨C, [(f2, .int j), (f1, .int i)]⟩ M') (hdb : (x == ("__debug__" : Str)) = false := by decide)
    (he : starEach [e1, e2] X.env = (false, eval e1 X.env) :: starEach [e2] X.env := by rfl) (hpl : (backTo pos (starEach [e2] X.env)).any (·.1) = false := by rfl) : WM X P (.Call (.Name x p) [e1, e2] [] pos) δ M R :=
  ⟨_, pmk_oex c.T c.iC c.tI Fi hr hb .nil passL hg c.g pa_sem hdb he hpl, fun σ H F G Q k => h.go G fun vs H1 F1 M1 ds s1 G1 r1 q1 => by
    obtain ⟨i, j, rfl, q⟩ := q1
    obtain ⟨v1, v2, rfl, a1, a2⟩ := r1.two
    cases a1; cases a2
    refine ⟨by simp, fun a ha => ⟨a, .int i, .int j, rfl, upd_same, fun dx hdx hne => ⟨rfl, dx, [(f2, .int j), (f1, .int i)], ?_, upd_same, ?_, ?_⟩⟩⟩
    · rw [upd_ne (Ne.symm hne), upd_same]
    · rwa [upd_ne hne] at hdx
    · rw [upd_ne hne] at hdx
      have e : upd (del (upd (upd (upd (upd H1 a (exo a C none)) dx (exd dx [(f1, .int i)])) a (exo a C (some dx))) dx (exd dx [(f2, .int j), (f1, .int i)])) a) dx (.xd [(f2, .int j), (f1, .int i)]) = upd H1 dx (.xd [(f2, .int j), (f1, .int i)]) := by
        funext b
        by_cases h1 : b = dx
        · subst h1; rw [upd_same, upd_same]
        · rw [upd_ne h1, upd_ne h1]
          by_cases h2 : b = a
          · subst h2; rw [del_same, ha]
          · rw [del_ne h2, upd_ne h1, upd_ne h2, upd_ne h1, upd_ne h2]
      rw [e]
      obtain ⟨S, s2⟩ := G1.st.froz (o := .xd [(f2, .int j), (f1, .int i)]) hdx
      exact k _ _ _ _ _ ⟨C, [(f2, .int j), (f1, .int i)]⟩ (s1.trans s2) S ⟨rfl, .inr ⟨dx, _, rfl, upd_same, .cons ⟨rfl, .int j⟩ (.cons ⟨rfl, .int i⟩ .nil)⟩⟩ q⟩
end
def fsD (fs : List (Str × Int)) : List (Str × D) := fs.map fun p => (p.1, .int p.2)
section
variable {X : Cx} {P : XP} {F : Hp} {M : Cells} {δ : Slots} {σ : L2.St} {H : Hp} {e : Expr} {pos : Pos} {E : En}
end
end PW
/-! PWF -/
namespace PW
open PySem L2 PyProof.Rows
section
variable {X : Cx} {P : XP} {F : Hp} {M : Cells} {δ : Slots} {σ : L2.St} {H : Hp} {a b : Expr} {pos p : Pos}
/-- a is b, truth values -/
theorem lift_isBl : Lift2 X rIsB (fun d e M Q => ∃ a b, d = .bl a ∧ e = .bl b ∧ Q (.bl (decide (a = b))) M) := fun k s S r1 r2 h => by
  obtain ⟨i, j, rfl, rfl, q⟩ := h
  cases r1; cases r2
  exact ⟨i, j, rfl, rfl, k _ _ (ret S s (.bl _) q)⟩
theorem we_isBl {Q : D → Cells → Prop} (h : WE X P a δ M fun d M1 => WE X P b δ M1 fun e M2 => ∃ i j, d = .bl i ∧ e = .bl j ∧ Q (.bl (decide (i = j))) M2) (hm : behindInMarks .Is b = false := by rfl) : WE X P (.Compare a [.Is] [b] pos) δ M Q := we_cmp op_isBl lift_isBl hm h
end
end PW
/-! PWG -/
namespace PW
open PySem PySem.Spec L2 PyProof.Rows
abbrev lstO (acc : Array Value) (c : Nat) : Obj := { cls := .type "list", dict := none, data := .seq acc c, slots := #[] }
section
variable {prog : Program} {w : World} {A : Around} {R : Result → Shared → Prop} {I S : Addr} {res : Value} {n : Nat}
/-- the loop of list(iterator) -/
theorem ext_loop (hn : n ≤ sizeLine) (J : Nat → Shared → Array Value → Prop)
    (turn : ∀ i s acc, i < n → J i s acc → acc.size = i → wpAny (model prog w) A.in1 (pyNext (.ref I)) (fun r s' => ∃ v c, r = some v ∧ s'.heap.get? S = some (lstO acc c) ∧ ∀ h'' c2, (∀ b o, b ≠ S → s'.heap.get? b = some o → h''.get? b = some o) → h''.get? S = some (lstO (acc.push v) c2) → J (i + 1) { s' with heap := h'' } (acc.push v)) (fun e s' => R (.error e) s') s)
    (fin : ∀ s acc, J n s acc → acc.size = n → wpAny (model prog w) A.in1 (pyNext (.ref I)) (fun r s' => r = none ∧ R (.ok (.ret res)) s') (fun e s' => R (.error e) s') s) :
    ∀ (k i : Nat) (s : Shared) (acc : Array Value), n - i = k → i ≤ n → J i s acc → acc.size = i → codeAny (model prog w) A (.builtin "list.extend.loop" ⟨[.ref S, .ref I, res], []⟩) R s := by
  intro k
  induction k with
  | zero =>
    intro i s acc hk hi hj hs
    have hin : i = n := by omega
    subst hin
    refine codeAny_builtin F.entry_extend_loop ?_
    rw [Around.under_plainId F.plain_extend_loop _]
    show wpAny _ A.in1 (pyNext (.ref I) >>= _) _ _ s
    refine wpAny_bind (L2.thn (fin s acc hj hs) fun r s' ⟨hr, q⟩ => ?_)
    subst hr
    exact wpAny_pure q
  | succ k ih =>
    intro i s acc hk hi hj hs
    have hlt : i < n := by omega
    refine codeAny_builtin F.entry_extend_loop ?_
    rw [Around.under_plainId F.plain_extend_loop _]
    show wpAny _ A.in1 (pyNext (.ref I) >>= _) _ _ s
    refine wpAny_bind (L2.thn (turn i s acc hlt hj hs) fun r s' ⟨v, c, hr, hS, go⟩ => ?_)
    subst hr
    show wpAny _ A.in1 (updateSeq S (·.push v) >>= _) _ _ _
    refine wpAny_bind ?_
    refine wpAny_updateSeq hS rfl (wpAny_pure ⟨plainId_quiet F.plain_extend_loop _, ih (i + 1) _ (acc.push v) (by omega) hlt (go _ _ (fun b o hb e => (Heap.get?_update_other _ _ (Ne.symm hb)).trans e) (Heap.get?_update_self _ hS rfl)) (by rw [Array.size_push, hs])⟩)
      (by rw [hs]; omega) (by show (acc.push v).size ≤ sizeLine + 1; rw [Array.size_push, hs]; omega)
end
section
variable {prog : Program} {w : World} {A : Around} {E : Value → Shared → Prop} {s : Shared} {I : Addr} {T : String}
/-- list(an iterator without a length) -/
theorem call_list_it {Q : Value → Shared → Prop} {o : Obj} (ho : s.heap.get? I = some o) (hc : o.cls = .type T) (t1 : (Value.type T == Value.type "list") = false) (t2 : (Value.type T == Value.type "tuple") = false)
    (nl : typeLookup (.type T) "__len__" = pure none) (nh : typeLookup (.type T) "__length_hint__" = pure none)
    (self : ∀ (A : Around) (h : Heap) (Q : Value → Shared → Prop) (E : Value → Shared → Prop), (∀ b o, s.heap.get? b = some o → h.get? b = some o) → Q (.ref I) { s with heap := h } → wpAny (model prog w) A (pyIter (.ref I)) Q E { s with heap := h })
    (loop : ∀ (h : Heap) (c : Nat) (R : Result → Shared → Prop), (∀ b o, s.heap.get? b = some o → h.get? b = some o) → h.get? s.heap.objs.size = some (lstO #[] c) → (∀ s', Q (.ref s.heap.objs.size) s' → R (.ok (.ret .none)) s') →
      codeAny (model prog w) A.in1 (.builtin "list.extend.loop" ⟨[.ref s.heap.objs.size, .ref I, .none], []⟩) R { s with heap := h }) :
    wpAny (model prog w) A (call (.type "list") [.ref I]) Q E s := by
  have hSI : s.heap.objs.size ≠ I := Nat.ne_of_gt (Heap.lt_size ho)
  refine callType_codes (Q₁ := fun obj s₁ => obj = .ref s.heap.objs.size ∧ s₁ = { s with heap := s.heap.push { cls := .type "list", data := .seq #[] } }) F.called_list (F.typeCall_list_1 _) F.entry_list_init
    (code_list_new _ ⟨rfl, rfl⟩) fun obj s₁ h₁ => ?_
  obtain ⟨rfl, rfl⟩ := h₁
  have hS : (s.heap.push { cls := .type "list", data := .seq #[] }).get? s.heap.objs.size = some { cls := .type "list", data := .seq #[] } := Heap.get?_push_size _ rfl
  refine ⟨⟨_, hS, rfl⟩, F.args_list_init_2 _ _, ?_⟩
  have k0 : ∀ b o, s.heap.get? b = some o → (s.heap.push { cls := .type "list", data := .seq #[] }).get? b = some o := fun b o e => Heap.get?_push_of_some _ e
  have nS : ∀ b o, s.heap.get? b = some o → b ≠ s.heap.objs.size := fun b o e => Nat.ne_of_lt (Heap.lt_size e)
  generalize s.heap.push { cls := .type "list", data := .seq #[] } = h0 at hS k0
  show wpAny _ A.in1.in1 (do let old ← Builtin.List.listItems (.ref s.heap.objs.size); Builtin.List.listUpdate (.ref s.heap.objs.size) (fun _ => #[]); letGo old.toList.reverse; Builtin.List.listExtendWith (.ref s.heap.objs.size) (.ref I) .none) _ _ _
  refine wpAny_bind ?_
  unfold Builtin.List.listItems
  refine wpAny_bind (wpAny_seqItems hS rfl (wpAny_pure ?_))
  show wpAny _ A.in1.in1 (updateSeq s.heap.objs.size (fun _ => #[]) >>= fun _ => letGo (#[] : Array Value).toList.reverse >>= fun _ => Builtin.List.listExtendWith (.ref s.heap.objs.size) (.ref I) .none) _ _ _
  refine wpAny_bind (wpAny_updateSeq hS rfl ?_)
  have hS2 := Heap.get?_update_self (Obj.mapSeq (fun _ => (#[] : Array Value))) hS rfl
  have k2 : ∀ b o, s.heap.get? b = some o → (h0.update s.heap.objs.size (Obj.mapSeq (fun _ => (#[] : Array Value)))).get? b = some o :=
    fun b o e => (Heap.get?_update_other _ _ (Ne.symm (nS b o e))).trans (k0 b o e)
  refine wpAny_bind (wpAny_letGo ?_)
  generalize h0.update s.heap.objs.size (Obj.mapSeq (fun _ => (#[] : Array Value))) = h1 at hS2 k2
  have ty : ∀ h : Heap, (∀ b o, s.heap.get? b = some o → h.get? b = some o) → ({ s with heap := h } : Shared).TypeIs (.ref I) T := fun h k => ⟨o, k _ _ ho, hc⟩
  unfold Builtin.List.listExtendWith
  refine wpAny_bind (wpAny_typeOf (ty _ k2) ?_)
  have h1' : Builtin.List.listSameRef (.ref s.heap.objs.size) (.ref I) = false := by simp [Builtin.List.listSameRef, hSI]
  simp only [h1', t1, t2, Bool.or_false, Bool.false_eq_true, if_false]
  refine wpAny_bind (self _ h1 _ _ k2 ?_)
  refine wpAny_bind (wpAny_holding ?_)
  unfold Builtin.List.listLengthHint
  refine wpAny_bind (wpAny_specialOf (ty _ k2) nl ?_)
  show wpAny _ A.in1.in1 (specialOf (Value.ref I) (Str.ofString "__length_hint__") >>= _) _ _ _
  refine wpAny_bind (wpAny_specialOf (ty _ k2) nh ?_)
  refine wpAny_pure ?_
  show wpAny _ A.in1.in1 (rule "list.extend.makes-room" >>= fun _ => Builtin.List.listTouch (.ref s.heap.objs.size) >>= fun _ =>
    again (.builtin "list.extend.loop" ⟨[.ref s.heap.objs.size, .ref I, .none], []⟩)) _ _ _
  refine wpAny_bind (wpAny_rule ?_)
  refine wpAny_bind ?_
  show wpAny _ A.in1.in1 (updateSeq s.heap.objs.size (·.push .none) >>= fun _ => updateSeq s.heap.objs.size (·.pop)) _ _ _
  refine wpAny_bind (wpAny_updateSeq hS2 rfl ?_)
  have hS3 := Heap.get?_update_self (Obj.mapSeq (·.push Value.none)) hS2 rfl
  refine wpAny_updateSeq (hz := by seq_fits) hS3 rfl ?_
  have hS4 := Heap.get?_update_self (Obj.mapSeq (·.pop)) hS3 rfl
  refine wpAny_pure ⟨plainId_quiet F.plain_extend_loop _, loop _ _ _ (fun b o e => ?_) hS4 fun s' q => ⟨rfl, q⟩⟩
  exact (Heap.get?_update_other _ _ (Ne.symm (nS b o e))).trans ((Heap.get?_update_other _ _ (Ne.symm (nS b o e))).trans (k2 b o e))
end
theorem enum_no_len : typeLookup (.type "enumerate") "__len__" = pure none := by rw [typeLookup_type, builtinLookup_eq_fast]; kernel_rfl
theorem enum_no_hint : typeLookup (.type "enumerate") "__length_hint__" = pure none := by rw [typeLookup_type, builtinLookup_eq_fast]; kernel_rfl

section
variable {X : Cx} {P : XP} {F : Hp} {M : Cells} {δ : Slots} {σ : L2.St} {H : Hp} {a b : Expr} {pos p pos2 p2 : Pos}
end
end PW
/-! PWH -/
namespace PW
open PySem PySem.Spec L2 PyProof.Rows
structure EJ (xs : List V) (J : Addr → Nat → Hp → List V → Prop) (H : Hp) (Q : VK) : Prop where
  start : ∀ S, H S = none → J S 0 (upd H S (.lst [])) []
  turn : ∀ S (i : Nat) H' vs x T, J S i H' vs → xs[i]? = some x → H' T = none → H' S = some (.lst vs) → J S (i + 1) (upd (upd H' T (.tup [.int i, x])) S (.lst (vs ++ [.ref T]))) (vs ++ [.ref T])
  fin : ∀ S H' vs, J S xs.length H' vs → H' S = some (.lst vs) → Q (.ref S) H'
def tLE (K : PySem.W.Frag) (ta : TA) : TE := fun σ H Q => ta σ H fun vs H1 => ∃ (a : Addr) (xs : List V), vs = [.ref a] ∧ SqL K H1 a xs ∧ ∃ J, EJ xs J H1 Q
def ESt (e it a S : Addr) (its : Array Value) (i : Nat) (h : Heap) : Prop :=
  h.IsListIter it a i ∧ h.IsList a its ∧ ((∃ old, IsEnum h e it i old) ∨ ∃ old T f oT, IsEnumHeld h e it i old T f ∧ h.get? T = some oT ∧ T ≠ e ∧ T ≠ it ∧ T ≠ S)
theorem ESt.keep {e it a S : Addr} {its : Array Value} {i : Nat} {h h' : Heap} (d : S ≠ e ∧ S ≠ it ∧ S ≠ a) (st : ESt e it a S its i h) (hk : ∀ c o, c ≠ S → h.get? c = some o → h'.get? c = some o) : ESt e it a S its i h' := by
  obtain ⟨de, dit, da⟩ := d
  obtain ⟨hit, hl, he⟩ := st
  refine ⟨hit.at fun o x => hk _ o (Ne.symm dit) x, hl.at fun o x => hk _ o (Ne.symm da) x, ?_⟩
  rcases he with ⟨old, he⟩ | ⟨old, T, f, oT, he, hT, r1, r2, r3⟩
  · exact .inl ⟨old, hk _ _ (Ne.symm de) he⟩
  · exact .inr ⟨old, T, f, oT, hk _ _ (Ne.symm de) he, hk _ _ r3 hT, r1, r2, r3⟩
theorem ESt.next {prog : Program} {w : World} {A : Around} {E : Value → Shared → Prop} {s : Shared} {e it a S : Addr} {its : Array Value} {i : Nat} {u : Value} {Q : Option Value → Shared → Prop} (hei : e ≠ it) (hle : a ≠ e) (hli : a ≠ it) (hS : S < s.heap.objs.size)
    (st : ESt e it a S its i s.heap) (ex : its[i]? = some u)
    (hQ : ∀ h' t, ESt e it a S its (i + 1) h' → h'.get? s.heap.objs.size = some { cls := .type "tuple", data := .seq #[.int i t, u] } → (∀ c o, c ∉ [e, it] → s.heap.get? c = some o → h'.get? c = some o) → Q (some (.ref s.heap.objs.size)) { s with heap := h', toks := s.toks + 1 }) :
    wpAny (model prog w) A (pyNext (.ref e)) Q E s := by
  obtain ⟨hit, hl, he⟩ := st
  have ec : ((i + 1 : Nat) : Int) = (i : Int) + 1 := by omega
  have nit : s.heap.objs.size ≠ it := let ⟨_, x, _⟩ := hit; Nat.ne_of_gt (Heap.lt_size x)
  rcases he with ⟨old, he⟩ | ⟨old, T, f, oT, he, hT, r1, r2, r3⟩
  · refine wpAny_pyNext_enum_item he hit hl ex hei fun h' ho hit' hT hsz hk => ?_
    exact hQ h' _ ⟨hit', hl.at fun o x => hk a o hle hli x, .inr ⟨_, s.heap.objs.size, false, _, (by rw [ec]; exact ho), hT, Nat.ne_of_gt (Heap.lt_size he), nit, Nat.ne_of_gt hS⟩⟩ hT
      fun b o hb x => hk b o (fun y => hb (by simp [y])) (fun y => hb (by simp [y])) x
  · refine wpAny_pyNext_enum_item_held he hT r1 r2 hit hl ex hei fun h' ho hit' hT' hsz hk => ?_
    exact hQ h' _ ⟨hit', hl.at fun o x => hk a o hle hli x, .inr ⟨old, T, true, oT, (by rw [ec]; exact ho), hk _ _ r1 r2 hT, r1, r2, r3⟩⟩ hT'
      fun b o hb x => hk b o (fun y => hb (by simp [y])) (fun y => hb (by simp [y])) x
theorem ESt.done {prog : Program} {w : World} {A : Around} {E : Value → Shared → Prop} {s : Shared} {e it a S : Addr} {its : Array Value} {i : Nat} {Q : Option Value → Shared → Prop} (hh : A.handled = none)
    (st : ESt e it a S its i s.heap) (hx : its[i]? = none)
    (hQ : ∀ h', (∀ c o, c ∉ [e, it] → s.heap.get? c = some o → h'.get? c = some o) → Q none { s with heap := h' }) :
    wpAny (model prog w) A (pyNext (.ref e)) Q E s := by
  obtain ⟨hit, hl, he⟩ := st
  rcases he with ⟨old, he⟩ | ⟨old, T, f, oT, he, hT, r1, r2, r3⟩
  · exact wpAny_pyNext_enum_end hh he hit hl hx fun h' hk => hQ h' fun b o hb x => hk b o (fun y => hb (by simp [y])) x
  · exact wpAny_pyNext_enum_end_held hh he hit hl hx fun h' hk => hQ h' fun b o hb x => hk b o (fun y => hb (by simp [y])) x
/-- list(enumerate(a)) of a list -/
theorem pe_listEnum {X : Cx} {e : Expr} {ta : TA} {p pos p2 pos2 : Pos} (hc : X.calm = true) (hgl : Gl X "list") (hml : X.mg "list" = none) (hg : Gl X "enumerate") (hm : X.mg "enumerate" = none) (ha : PA X [e] ta)
    (na : starEach [Expr.Call (.Name "enumerate" p2) [e] [] pos2] X.env = (false, eval (Expr.Call (.Name "enumerate" p2) [e] [] pos2) X.env) :: starEach [] X.env := by rfl)
    (hs : starEach [e] X.env = [(false, eval e X.env)] := by rfl) :
    PE X (.Call (.Name "list" p) [.Call (.Name "enumerate" p2) [e] [] pos2] [] pos) (tLE X.K ta) := by
  refine ⟨fun pins s σ H Q I h => ?_⟩
  refine Call_ (ld_blt I hgl hml boot_list (PyProof.Rows.callWith_type1 (args_cons (Call_ (ld_blt I hg hm boot_enumerate (PyProof.Rows.callWith_type1 (L2.thn (ha.run pos2 pins s σ H _ I h) fun us s1 ⟨vs, H1, I1, r1, q1⟩ => ?_) hs rfl))) na) na))
  obtain ⟨a, xs, ex, hqx, JJ, pj⟩ := q1
  subst ex
  obtain ⟨v1, rfl, ra⟩ : ∃ v1, us = [v1] ∧ RelV (.ref a) v1 := by
    cases r1 with
    | cons r rr => cases rr; exact ⟨_, rfl, r⟩
  cases ra
  obtain ⟨its, rv, p1, hz1⟩ := I1.list hqx
  have la : a < s1.heap.objs.size := p1.lt
  refine call_enumerate_list p1.isList fun h' he h1 hsz hk => args_nil ?_
  refine call_list_it (T := "enumerate") he rfl (by decide) (by decide) enum_no_len enum_no_hint (fun A h Q E k q => wpAny_pyIter_enum (k _ _ he) q) fun h c R k hS fin => ?_
  have hSs : h'.objs.size = s1.heap.objs.size + 2 := hsz
  have kk : ∀ b o, s1.heap.get? b = some o → h.get? b = some o := fun b o e => k b o (hk b o e)
  generalize hSd : h'.objs.size = S at *
  have la' : @LT.lt Nat _ a s1.heap.objs.size := la
  have hSs' : @Eq Nat S (s1.heap.objs.size + 2) := hSs
  have dS : S ≠ s1.heap.objs.size + 1 ∧ S ≠ s1.heap.objs.size ∧ S ≠ a := by
    refine ⟨?_, ?_, ?_⟩ <;> (refine PySem.W.neN ?_; omega)
  have dE : s1.heap.objs.size + 1 ≠ s1.heap.objs.size ∧ a ≠ s1.heap.objs.size + 1 ∧ a ≠ s1.heap.objs.size := by
    refine ⟨?_, ?_, ?_⟩ <;> (refine PySem.W.neN ?_; omega)
  have wl : ∀ b' ∈ [s1.heap.objs.size + 1, s1.heap.objs.size], b' < S := fun b' hb => by
    have e' : @Eq Nat b' (s1.heap.objs.size + 1) ∨ @Eq Nat b' s1.heap.objs.size := by simpa using hb
    show @LT.lt Nat _ b' S
    omega
  have hle : s1.heap.objs.size ≤ S := by rw [hSs]; exact Nat.le_add_right _ _
  have hSn : H1 S = none := I1.hok.fresh hle
  have I2 : Inv X pins σ (upd H1 S (.lst [])) { s1 with heap := h } := I1.laid (t' := s1.toks) kk hle (show ObjOk X.prog X.w _ h _ (.lst []) from ⟨Nat.zero_le _, [], c, .nil, hS⟩)
  have fp : ∀ b' ∈ [s1.heap.objs.size + 1, s1.heap.objs.size], FpOk X pins (upd H1 S (.lst [])) b' := fun b' hb => by
    have e' : b' = s1.heap.objs.size + 1 ∨ b' = s1.heap.objs.size := by simpa using hb
    have hl : s1.heap.objs.size ≤ b' := by
      rcases e' with z | z
      · rw [z]; exact Nat.le_add_right _ _
      · rw [z]; exact Nat.le_refl _
    have hne : b' ≠ S := by
      rcases e' with z | z
      · rw [z]; exact Ne.symm dS.1
      · rw [z]; exact Ne.symm dS.2.1
    exact I1.fpOk hl ((upd_ne hne).trans (I1.hok.fresh hl))
  have z0 : ESt (s1.heap.objs.size + 1) s1.heap.objs.size a S its.toArray 0 h :=
    ⟨h1.at fun o e => k _ o e, p1.isList.at fun o e => kk _ o e, .inl ⟨_, k _ _ he⟩⟩
  clear he h1 hsz hk
  generalize s1.heap.objs.size + 1 = en at *
  generalize s1.heap.objs.size = it at *
  have lx := rv.length
  refine ext_loop (n := xs.length) hz1 (fun i s acc => ∃ H' vs c, Inv X pins σ H' s ∧ ESt en it a S its.toArray i s.heap ∧ s.heap.get? S = some (lstO acc c) ∧ Vals vs acc.toList ∧ JJ S i H' vs ∧ H' S = some (.lst vs) ∧ ∀ b' ∈ [en, it], FpOk X pins H' b') ?_ ?_ _ 0 _ #[] rfl (Nat.zero_le _) ⟨_, [], c, I2, z0, hS, .nil, pj.start S hSn, upd_same, fp⟩ rfl
  · rintro i s acc hi ⟨H', vs, c', I', st, hS', hv, hj, hHS, fp'⟩ hsz
    have gx := List.getElem?_eq_getElem hi
    obtain ⟨u, hu, ru⟩ := rv.get gx
    have hSl : S < s.heap.objs.size := Heap.lt_size hS'
    refine st.next dE.1 dE.2.1 dE.2.2 hSl (u := u) (by simpa using hu) fun h2 t st2 hT hk2 => ?_
    have hSw : S ∉ [en, it] := fun hm => by
      have e' : S = en ∨ S = it := by simpa using hm
      rcases e' with q | q
      · exact dS.1 q
      · exact dS.2.1 q
    have hS2 := hk2 S _ hSw hS'
    refine ⟨_, c', rfl, hS2, fun h3 c3 hk3 hS3 => ?_⟩
    have hTn : H' s.heap.objs.size = none := I'.hok.fresh (Nat.le_refl _)
    have new : ObjOk X.prog X.w (upd H' s.heap.objs.size (.tup [.int i, xs[i]])) h2 s.heap.objs.size (.tup [.int i, xs[i]]) :=
      ⟨by show 2 ≤ sizeLine; decide, [.int i t, u], .cons ⟨t, rfl⟩ (.cons ru .nil), ⟨_, hT, rfl, _, rfl⟩⟩
    have I3 : Inv X pins σ (upd H' s.heap.objs.size (.tup [.int i, xs[i]])) { s with heap := h2, toks := s.toks + 1 } := I'.turnedNew (t' := s.toks + 1) hk2 fp' (Nat.le_refl _) new
    have hST : S ≠ s.heap.objs.size := Nat.ne_of_lt hSl
    have hHS3 : (upd H' s.heap.objs.size (.tup [.int i, xs[i]])) S = some (.lst vs) := (upd_ne hST).trans hHS
    have vals : Vals (vs ++ [.ref s.heap.objs.size]) (acc.push (.ref s.heap.objs.size)).toList := by
      rw [Array.toList_push]
      exact hv.append (.cons rfl .nil)
    have I4 : Inv X pins σ (upd (upd H' s.heap.objs.size (.tup [.int i, xs[i]])) S (.lst (vs ++ [.ref s.heap.objs.size]))) { s with heap := h3, toks := s.toks + 1 } :=
      I3.write (t' := s.toks + 1) (by rw [hHS3]; trivial) (.inl rfl) hk3 ⟨_, hS3⟩ (show ObjOk X.prog X.w _ h3 _ (.lst (vs ++ [.ref s.heap.objs.size])) from ⟨by
        have := vals.length
        rw [this, Array.length_toList, Array.size_push, hsz]
        omega, (acc.push (.ref s.heap.objs.size)).toList, c3, vals, by rw [Array.toArray_toList]; exact hS3⟩)
    refine ⟨_, _, c3, I4, st2.keep dS hk3, hS3, vals, pj.turn S i H' vs _ _ hj gx hTn hHS, upd_same, fun b' hb => ?_⟩
    have f := fp' b' hb
    have hbS : b' ≠ S := fun q => hSw (q ▸ hb)
    refine ⟨(upd_ne hbS).trans ((upd_ne fun q => ?_).trans f.1), f.2⟩
    have bl : b' < s.heap.objs.size := Nat.lt_trans (wl b' hb) hSl
    exact absurd bl (by rw [q]; exact Nat.lt_irrefl _)
  · rintro s acc ⟨H', vs, c', I', st, hS', hv, hj, hHS, fp'⟩ hsz
    have hend : its.toArray[xs.length]? = none := Array.getElem?_eq_none (by simp; omega)
    refine st.done (I'.ok.hd hc) hend fun h2 hk2 => ⟨rfl, fin _ ⟨.ref S, H', I'.turnedL (t' := s.toks) hk2 fp', rfl, pj.fin S H' vs hj hHS⟩⟩
section
variable {X : Cx} {P : XP} {F : Hp} {M : Cells} {δ : Slots} {σ : L2.St} {H : Hp} {a : Expr} {pos p pos2 p2 : Pos}
theorem enum_get {xs : List D} {i : Nat} {x : D} (hx : xs[i]? = some x) : (enumD xs).take (i + 1) = (enumD xs).take i ++ [.tup [.int i, x]] := by
  rw [List.take_succ]
  unfold enumD
  have hi := (List.getElem?_eq_some_iff.mp hx).1
  rw [List.getElem?_map, List.getElem?_range hi, Option.map_some, List.getD_eq_getElem?_getD, hx]
  rfl
/-- list(enumerate(a)), a new cell of pairs -/
theorem we_listEnum {Q : D → Cells → Prop} (hc : X.calm = true) (hgl : Gl X "list") (hml : X.mg "list" = none) (hg : Gl X "enumerate") (hm : X.mg "enumerate" = none)
    (h : WA X P [a] δ M fun ds M1 => ∃ d xs, ds = [d] ∧ LV M1 d xs ∧ ∀ q, Q (.cel q) ((q, .lst (enumD xs)) :: M1))
    (na : starEach [Expr.Call (.Name "enumerate" p2) [a] [] pos2] X.env = (false, eval (Expr.Call (.Name "enumerate" p2) [a] [] pos2) X.env) :: starEach [] X.env := by rfl)
    (hs : starEach [a] X.env = [(false, eval a X.env)] := by rfl) :
    WE X P (.Call (.Name "list" p) [.Call (.Name "enumerate" p2) [a] [] pos2] [] pos) δ M Q :=
  we_of (pe_listEnum hc hgl hml hg hm pa_sem na hs) fun σ H F G => h.go G fun vs H1 F1 M1 ds s1 G1 r1 q1 => by
    obtain ⟨d, xs, rfl, l1, q⟩ := q1
    obtain ⟨v1, rfl, a1⟩ := r1.one
    obtain ⟨a, vs, rfl, e1, f1⟩ := G1.st.readL a1 l1
    refine ⟨a, vs, rfl, e1, fun S i H' us => ∃ F', Same F1 F' ∧ Stt X.K F' ((S, .lst ((enumD xs).take i)) :: M1) δ σ H', ⟨fun S hS => ?_, fun S i H' us x T hj hx hT hHS => ?_, fun S H' us hj hHS => ?_⟩⟩
    · exact ⟨F1, Same.refl _, G1.st.newL hS .nil⟩
    · obtain ⟨F', s', S'⟩ := hj
      obtain ⟨us', u1, u2, u3⟩ := S'.cellAt (List.Mem.head _)
      rw [hHS] at u1
      cases u1
      obtain ⟨dx, gx, rx⟩ := f1.get' hx
      obtain ⟨S2, s2⟩ := S'.froz (o := .tup [.int i, x]) hT
      have S3 := S2.setCell (k := 0) (c' := .lst ((enumD xs).take (i + 1))) rfl ⟨us ++ [.ref T], upd_same, by
        rw [enum_get gx]
        exact (u3.up s2).append (.cons (.tup (.of upd_same) (.cons (.int _) (.cons (rx.up (s'.trans s2)) .nil))) .nil)⟩
      exact ⟨_, s'.trans s2, S3⟩
    · obtain ⟨F', s', S'⟩ := hj
      have e : (enumD xs).take vs.length = enumD xs := List.take_of_length_le (by
        unfold enumD
        rw [List.length_map, List.length_range, f1.length]
        exact Nat.le_refl _)
      rw [e] at S'
      exact ret S' (s1.trans s') (.cel S) (q S)
end
end PW
/-! PWI -/
namespace PW
open PySem PySem.Spec L2 PyProof.Rows
section
variable {X : Cx} {P : XP} {F : Hp} {M : Cells} {δ : Slots} {σ : L2.St} {H : Hp} {a : Expr} {pos p p2 q : Pos}
end
end PW
/-! PWJ -/
namespace PW
open PySem L2 PyProof.Rows
section
variable {X : Cx} {P : XP} {F : Hp} {M : Cells} {δ : Slots} {σ : L2.St} {H : Hp} {e a b c o : Expr} {es : List Expr} {pos pos' p p1 q apos cpos : Pos}
end
end PW
/-! PWK -/
namespace PW
open PySem PySem.Spec L2 PyProof.Rows
def kp (l : List Int) : Int × Int := (l.getD 0 0, l.getD 1 0)
section
variable {P : Program} {w : World} {A : Around} {E : Value → Shared → Prop} {s : Shared}
end
section
variable {X : Cx} {P : XP} {F : Hp} {M : Cells} {δ : Slots} {σ : L2.St} {H : Hp} {a : Expr} {pos p p2 q : Pos}
end
end PW
/-! PWT2 -/
namespace PW
open PySem PySem.Spec L2 PyProof.Rows
section
variable {X : Cx} {xa xb n : Str} {ca cb : Value} {i : Nat} {body sa sb : List Stmt} {a₀ b₀ : Stmt} {na nb pa pb pos : Pos} {tb : WX → TS} {ta tc : Addr → Value → Option Addr → TS}
end
end PW
namespace PW
open PySem L2 PyProof.Rows
section
variable {X : Cx} {P : XP} {F : Hp} {M : Cells} {δ : Slots} {σ : L2.St} {H : Hp} {E : En}
end
end PW
namespace PW
open PySem PySem.Spec L2 PyProof.Rows
section
variable {X : Cx} {P : XP} {F : Hp} {M : Cells} {δ : Slots} {σ : L2.St} {H : Hp} {e : Expr} {k : Nat} {p1 p2 pos : Pos}
end
end PW
namespace PW
open PySem L2 PyProof.Rows
section
variable {X : Cx} {P : XP} {F : Hp} {M : Cells} {δ : Slots} {σ : L2.St} {H : Hp} {a : Expr} {p pos : Pos}
end
end PW
/-! PWN -/
namespace PW
open PySem L2 PyProof.Rows PySem.W
section
variable {X : Cx} {P : XP} {M : Cells} {δ : Slots} {a b : Expr} {pos : Pos}
end
end PW
/-! MStr -/
namespace PW
theorem lc_40 : lc 41 ≤ 2 ^ 64 := by decide +kernel
end PW
/-! PWDc -/
open PySem PyProof.Rows
namespace PW
open PySem L2 PyProof.Rows
theorem vals_refs : ∀ {ts : List Addr} {its : List Value}, Vals (ts.map V.ref) its → its = ts.map Value.ref
  | [], _, .nil => rfl
  | t :: ts, _, .cons r rr => by
    cases r
    rw [vals_refs rr]
    rfl
/-- the pairs of a list of pairs, in the heap -/
theorem pairs_laid {X : Cx} {pins : List (Addr × Obj)} {σ : L2.St} {H : Hp} {s : Shared} (I : Inv X pins σ H s) : ∀ {ts : List Addr} {kvs : List (Key × V)}, Paired (fun (t : Addr) (q : Key × V) => SqT X.K H t [kV q.1, q.2]) ts kvs →
    ∃ ps : List (Value × Value), ps.length = kvs.length ∧ (∀ (j : Nat) k v, ps[j]? = some (k, v) → ∃ t q, ts[j]? = some t ∧ kvs[j]? = some q ∧ PySem.PairAt s.heap t k v ∧ RelV (kV q.1) k ∧ RelV q.2 v)
  | [], [], .nil => ⟨[], rfl, fun j k v h => by cases h⟩
  | t :: ts, q :: kvs, .cons h hh => by
    obtain ⟨ps, l, f⟩ := pairs_laid I hh
    obtain ⟨its, rv, tp, _⟩ := I.tuple h
    cases rv with
    | @cons _ k1 _ _ r1 rr =>
      cases rr with
      | @cons _ v1 _ _ r2 rn =>
        cases rn
        refine ⟨(k1, v1) :: ps, by rw [List.length_cons, List.length_cons, l], fun j k v e => ?_⟩
        cases j with
        | zero =>
          cases e
          exact ⟨t, q, rfl, rfl, .inl tp, r1, r2⟩
        | succ j => exact f j k v e
theorem paired_of_get {α β : Type} {R : α → β → Prop} : ∀ {xs : List α} {ys : List β}, xs.length = ys.length → (∀ (j : Nat) x y, xs[j]? = some x → ys[j]? = some y → R x y) → Paired R xs ys
  | [], [], _, _ => .nil
  | x :: xs, y :: ys, h, f => .cons (f 0 x y rfl rfl) (paired_of_get (by simpa using h) fun j a b ha hb => f (j + 1) a b ha hb)
theorem cr_dictPairs {X : Cx} (hcalm : X.calm = true) : CallR X (.type "dict") (fun zs H Q => ∃ (a : Addr) (ts : List Addr) (kvs : List (Key × V)), zs = [.ref a] ∧ SqL X.K H a (ts.map V.ref) ∧ Paired (fun (t : Addr) (q : Key × V) => SqT X.K H t [kV q.1, q.2]) ts kvs ∧ (kvs.map (·.1)).Nodup ∧ ∀ p, H p = none → Q (.ref p) (upd H p (.dK kvs))) := by
  intro pins s σ H xs us Q I r q
  obtain ⟨a, ts, kvs, ex, hl, hp, nd, q⟩ := q
  subst ex
  obtain ⟨u, eu, rx⟩ := vals1 r
  subst eu
  cases rx
  obtain ⟨its, rv, pl, z⟩ := I.list hl
  have ei := vals_refs rv
  obtain ⟨ps, pn, pf⟩ := pairs_laid I hp
  have tn : ts.length = kvs.length := Paired.length hp
  have hz : kvs.length ≤ sizeLine := by rw [List.length_map] at z; omega
  have P := PySem.PairArg.list (prog := X.prog) (w := X.w) a its.toArray (fun j => ts.getD j 0) ps
  have vsl : (kvs.zip ps).length = kvs.length := by rw [List.length_zip]; omega
  have rel : KV kvs ((kvs.zip ps).map fun p => (p.1.1, p.2.2)) := by
    refine paired_of_get (by rw [List.length_map, vsl]) fun j x y hx hy => ?_
    rw [List.getElem?_map] at hy
    cases e : (kvs.zip ps)[j]? with
    | none => rw [e] at hy; cases hy
    | some w' =>
      rw [e] at hy
      obtain ⟨e1, e2⟩ := List.getElem?_zip_eq_some.mp e
      obtain ⟨t, q', _, hq, _, _, r2⟩ := pf j w'.2.1 w'.2.2 e2
      cases hy
      rw [hx] at e1 hq
      cases e1
      cases hq
      exact ⟨rfl, r2⟩
  refine PySem.call_dict_pairs (knd := mixKind X.prog X.w) (kvs := (kvs.zip ps).map fun p => (p.1.1, p.2.2)) P (I.ok.hd hcalm) ⟨pl, ?_, ?_⟩ ⟨by rw [List.length_map, vsl, pn], fun i key v h => ?_⟩ (by omega) fun h' tk dd hk => ?_
  · rw [ei, pn]; simp [tn]
  · intro j k v hj
    obtain ⟨t, q', ht, hq, pa, _, _⟩ := pf j k v hj
    refine ⟨?_, ?_⟩
    · rw [ei]
      show (ts.map Value.ref).toArray[j]? = some (.ref (ts.getD j 0))
      rw [List.getElem?_toArray, List.getElem?_map, ht, List.getD_eq_getElem?_getD, ht]
      rfl
    · show PySem.PairAt _ (ts.getD j 0) _ _
      rw [List.getD_eq_getElem?_getD, ht]
      exact pa
  · obtain ⟨t, q', _, hq, _, r1, r2⟩ := pf i key v h
    refine ⟨q'.1, ?_, kV_is r1⟩
    have e : (kvs.zip ps)[i]? = some (q', (key, v)) := List.getElem?_zip_eq_some.mpr ⟨hq, h⟩
    rw [List.getElem?_map, e]
    rfl
  · have em : merged [] ((kvs.zip ps).map fun p => (p.1.1, p.2.2)) = (kvs.zip ps).map fun p => (p.1.1, p.2.2) := merged_nil_of_nodup _ (by
      have : ((kvs.zip ps).map fun p => (p.1.1, p.2.2)).map (·.1) = kvs.map (·.1) := by
        rw [List.map_map]
        show (kvs.zip ps).map ((fun x => x.1) ∘ fun p => (p.1.1, p.2.2)) = _
        have e2 : (kvs.zip ps).map Prod.fst = kvs := List.map_fst_zip (by omega)
        conv => rhs; rw [← e2, List.map_map]
        rfl
      rw [this]
      exact nd)
    rw [em] at dd
    have hm : (s.heap.objs.size == sysModules) = false := beq_eq_false_iff_ne.mpr (Nat.ne_of_gt I.big)
    exact ⟨.ref s.heap.objs.size, upd H s.heap.objs.size (.dK kvs), I.laid (t' := tk) (fun b u e => hk b u (fun h => nomatch h) e) (Nat.le_refl _) (dk_new hz hm rel dd), rfl, q _ (I.hok.fresh (Nat.le_refl _))⟩
def kvI (xs : List (Int × Int)) : List (Key × D) := xs.map fun x => (.inl x.1, .int x.2)
def kvV (xs : List (Int × Int)) : List (Key × V) := xs.map fun x => (.inl x.1, .int x.2)
def lookI (xs : List (Int × Int)) (i : Int) : Option Int := (xs.find? fun x => decide (x.1 = i)).map (·.2)
theorem kv_rel {K : PySem.W.Frag} {F : Hp} : ∀ xs : List (Int × Int), KVs K F (kvV xs) (kvI xs)
  | [] => .nil
  | x :: xs => .cons ⟨rfl, .int _⟩ (kv_rel xs)
theorem kv_inv {K : PySem.W.Frag} {F : Hp} : ∀ {xs : List (Int × Int)} {vs : List (Key × V)}, KVs K F vs (kvI xs) → vs = kvV xs
  | [], _, .nil => rfl
  | x :: xs, _, .cons h t => by
    rw [kv_inv (xs := xs) t]
    obtain ⟨e1, e2⟩ := h
    rename_i p _
    obtain ⟨k, v⟩ := p
    cases e1
    cases e2
    rfl
theorem look_val (i : Int) : ∀ xs : List (Int × Int), valV (kvV xs) (.inl i : Key) = (lookI xs i).map V.int
  | [] => rfl
  | x :: xs => by
    show valV ((Sum.inl x.1, V.int x.2) :: kvV xs) _ = _
    unfold lookI
    by_cases e : x.1 = i
    · rw [valV_pos (show (Sum.inl x.1 : Key) = .inl i by rw [e])]
      simp [e]
    · rw [valV_neg (show ¬ (Sum.inl x.1 : Key) = .inl i from fun h => e (Sum.inl.inj h)), look_val i xs]
      unfold lookI
      simp [e]
theorem look_some (i : Int) : ∀ xs : List (Int × Int), (lookI xs i).isSome = decide (i ∈ xs.map Prod.fst)
  | [] => rfl
  | x :: xs => by
    have ih := look_some i xs
    unfold lookI at ih ⊢
    by_cases e : x.1 = i
    · simp [e]
    · have ne : ¬ i = x.1 := fun z => e z.symm
      rw [List.find?_cons, decide_eq_false e]
      show _ = decide (i ∈ x.1 :: xs.map Prod.fst)
      rw [show decide (i ∈ x.1 :: xs.map Prod.fst) = decide (i ∈ xs.map Prod.fst) from decide_eq_decide.mpr ⟨fun h => (List.mem_cons.mp h).resolve_left ne, List.mem_cons_of_mem _⟩]
      exact ih
theorem put_new {xs : List (Int × Int)} {i v : Int} (h : i ∉ xs.map Prod.fst) : putK (kvV xs) (.inl i : Key) (.int v) = kvV (xs ++ [(i, v)]) := by
  unfold putK
  rw [valV_any, look_val, Option.isSome_map, look_some, decide_eq_false h, if_neg (by decide)]
  unfold kvV
  rw [List.map_append]
  rfl
theorem book_refs {K : PySem.W.Frag} {F : Hp} {M : Cells} {δ : Slots} {σ : L2.St} {H : Hp} (S : Stt K F M δ σ H) : ∀ {xs : List (Int × Int)} {vs : List V}, Reps K F vs (bookD xs) → ∃ ts : List Addr, vs = ts.map V.ref ∧ Paired (fun (t : Addr) (q : Key × V) => SqT K H t [kV q.1, q.2]) ts (kvV xs)
  | [], _, r => by cases r; exact ⟨[], rfl, .nil⟩
  | x :: xs, _, r => by
    cases r with
    | cons a b =>
      obtain ⟨ts, rfl, hp⟩ := book_refs S (xs := xs) b
      obtain ⟨t, ws, rfl, e1, e2⟩ := S.readT a
      obtain ⟨w1, w2, rfl, r1, r2⟩ := e2.two
      cases r1; cases r2
      exact ⟨t :: ts, rfl, .cons e1 hp⟩
section
variable {X : Cx} {P : XP} {F : Hp} {M : Cells} {δ : Slots} {σ : L2.St} {H : Hp} {a b c e : Expr} {p pos cpos apos pos' : Pos} {E : En}
/-- dict(xs), xs a list of pairs of ints with unlike keys -/
theorem we_dictB {Q : D → Cells → Prop} (hc : X.calm = true) (hg : Gl X "dict") (hm : X.mg "dict" = none) (h : WE X P a δ M fun d M1 => ∃ xs : List (Int × Int), LV M1 d (bookD xs) ∧ (xs.map Prod.fst).Nodup ∧ ∀ q, Q (.cel q) ((q, .dct (kvI xs)) :: M1))
    (he : starEach [a] X.env = (false, eval a X.env) :: starEach [] X.env := by rfl) (hpl : (backTo pos (starEach [] X.env)).any (·.1) = false := by rfl) :
    WE X P (.Call (.Name "dict" p) [a] [] pos) δ M Q :=
  we_of (pe_callTy (cr_dictPairs hc) hg hm (by decide +kernel) (pa_cons pe_sem pa_nil he) (by decide) (by decide) he hpl) fun σ H F G =>
    h.go G fun v H1 F1 M1 d s1 G1 r1 q1 => by
      obtain ⟨xs, hl, nd, q1⟩ := q1
      obtain ⟨l, vs, rfl, e1, e2⟩ := G1.st.readL r1 hl
      obtain ⟨ts, rfl, hp⟩ := book_refs G1.st e2
      refine ⟨l, ts, kvV xs, rfl, e1, hp, ?_, fun q hq => ret (G1.st.newCell (c := .dct (kvI xs)) hq ⟨kvV xs, upd_same, kv_rel xs⟩) s1 (.cel q) (q1 q)⟩
      have : (kvV xs).map (·.1) = (xs.map Prod.fst).map (Sum.inl : Int → Key) := by
        unfold kvV
        rw [List.map_map, List.map_map]
        rfl
      rw [this]
      exact List.Pairwise.map _ (fun _ _ hne h => hne (Sum.inl.inj h)) nd
theorem Stt.dctAt {K : PySem.W.Frag} (S : Stt K F M δ σ H) {k : Nat} {q : Addr} {xs : List (Int × Int)} (h : M[k]? = some (q, .dct (kvI xs))) : H q = some (.dK (kvV xs)) := by
  obtain ⟨vs, h1, h2⟩ := S.cell _ (List.mem_of_getElem? h)
  rw [kv_inv h2] at h1
  exact h1
/-- i not in d -/
theorem wt_notInD {Q : Bool → Cells → Prop} (hu : X.A.units + 1 < cLine) (h : WE X P a δ M fun d M1 => WE X P b δ M1 fun e M2 => ∃ (i : Int) (q : Addr) (k : Nat) (xs : List (Int × Int)), d = .int i ∧ e = .cel q ∧ M2[k]? = some (q, .dct (kvI xs)) ∧ Q (!decide (i ∈ xs.map Prod.fst)) M2)
    (h1 : behindInMarks .NotIn b = false := by first | exact nobehind _ (by decide) (by decide) | rfl) : WT X P (.Compare a [.NotIn] [b] pos) δ M Q :=
  wt_of (pt_cmp (pc_dnotin hu pe_sem pe_sem) h1) fun σ H F G => h.go G fun v H1 F1 M1 d s1 G1 r1 q1 => q1.go G1 fun u H2 F2 M2 e s2 G2 r2 q2 => by
    obtain ⟨i, q, k, xs, rfl, rfl, hk, q2⟩ := q2
    cases r1; cases r2
    refine ⟨q, _, rfl, DGet.k (k := .inl i) (G2.st.dctAt hk), _, rfl, ?_⟩
    rw [look_val, Option.isSome_map, look_some]
    exact ⟨F2, M2, s1.trans s2, G2.st, q2⟩
/-- d[i] -/
theorem we_dgetI {Q : D → Cells → Prop} (hu : X.A.units + 1 < cLine) (h : WE X P a δ M fun d M1 => WE X P b δ M1 fun e M2 => ∃ (q : Addr) (k : Nat) (xs : List (Int × Int)) (i v : Int), d = .cel q ∧ e = .int i ∧ M2[k]? = some (q, .dct (kvI xs)) ∧ lookI xs i = some v ∧ Q (.int v) M2)
    (hs : NoSl b := by exact fun _ _ => rfl) : WE X P (.Subscript a b pos) δ M Q :=
  we_of (pe_dget hu pe_sem pe_sem hs) fun σ H F G => h.go G fun v H1 F1 M1 d s1 G1 r1 q1 => q1.go G1 fun u H2 F2 M2 e s2 G2 r2 q2 => by
    obtain ⟨q, k, xs, i, w, rfl, rfl, hk, hw, q2⟩ := q2
    cases r1; cases r2
    refine ⟨q, .int w, rfl, ?_, ret G2.st (s1.trans s2) (.int w) q2⟩
    have g := DGet.k (k := .inl i) (G2.st.dctAt hk)
    rw [look_val, hw] at g
    exact g
/-- d[i] = v, i a new key -/
theorem ws_dputI (hu : X.A.units + 1 < cLine) (h : WE X P c δ M fun z M1 => WE X P a δ M1 fun d M2 => WE X P b δ M2 fun e M3 => ∃ (q : Addr) (k : Nat) (xs : List (Int × Int)) (i v : Int), z = .int v ∧ d = .cel q ∧ e = .int i ∧ M3[k]? = some (q, .dct (kvI xs)) ∧ i ∉ xs.map Prod.fst ∧ xs.length < sizeLine ∧ E.nx δ (M3.set k (q, .dct (kvI (xs ++ [(i, v)])))))
    (hs : swapsWith c (some (.Subscript a b pos')) pos.line X.env = pure false := by rfl) : WS X P (.Assign [.Subscript a b pos'] c pos) δ M E :=
  ws_of (ps_dput hu pe_sem pe_sem pe_sem hs) fun σ H F G => h.go G fun v H1 F1 M1 z s1 G1 r1 q1 => q1.go G1 fun u H2 F2 M2 d s2 G2 r2 q2 => q2.go G2 fun w H3 F3 M3 e s3 G3 r3 q3 => by
    obtain ⟨q, k, xs, i, v', rfl, rfl, rfl, hk, hi, hl, q3⟩ := q3
    cases r1; cases r2; cases r3
    have hd := G3.st.dctAt hk
    refine ⟨q, _, rfl, DPut.k (k := .inl i) hd (by unfold kvV; rw [List.length_map]; exact hl), ?_⟩
    rw [put_new hi]
    exact nx_ (G3.st.setCell (c' := .dct (kvI (xs ++ [(i, v')]))) hk ⟨_, upd_same, kv_rel _⟩) ((s1.trans s2).trans s3) q3
/-- more frozen objects, more heap -/
theorem Stt.ext {K : PySem.W.Frag} (S : Stt K F M δ σ H) {F' H' : Hp} (s : Same F F') (hH : ∀ b o, H b = some o → H' b = some o) (le : Same F' H') (nw : ∀ b o, F' b = some o → F b = none → H b = none) : Stt K F' M δ σ H' := by
  refine ⟨le, S.nd, fun p hp => ?_, fun p hp => ?_, fun i d h => ?_, S.dlen⟩
  · obtain ⟨a, c⟩ := p
    have hc := S.cell _ hp
    cases c with
    | lst ds =>
      obtain ⟨vs, h1, h2⟩ := hc
      exact ⟨vs, hH _ _ h1, h2.up s⟩
    | dct kvs =>
      obtain ⟨vs, h1, h2⟩ := hc
      exact ⟨vs, hH _ _ h1, KVs.up s h2⟩
    | set w f n => exact hH _ _ hc
  · cases e : F' p.1 with
    | none => rfl
    | some o =>
      have := nw _ _ e (S.out _ hp)
      have hc := S.cell _ hp
      obtain ⟨a, c⟩ := p
      exfalso
      cases c with
      | lst ds => obtain ⟨vs, h1, _⟩ := hc; rw [h1] at this; cases this
      | dct kvs => obtain ⟨vs, h1, _⟩ := hc; rw [h1] at this; cases this
      | set w f n => have hc : H a = _ := hc; rw [hc] at this; cases this
  · obtain ⟨v, h1, h2⟩ := S.slot i d h
    exact ⟨v, h1, h2.up s⟩
theorem items_reps {K : PySem.W.Frag} {F' : Hp} : ∀ {ts : List Addr} {xs : List (Int × Int)}, Paired (fun (t : Addr) (q : Key × V) => F' t = some (.tup [kV q.1, q.2])) ts (kvV xs) → Reps K F' (ts.map V.ref) (bookD xs)
  | [], [], _ => .nil
  | t :: ts, x :: xs, .cons h hh => .cons (.tup (.of h) (.cons (.int _) (.cons (.int _) .nil))) (items_reps (xs := xs) hh)
theorem paired_mem {α β : Type} {R S : α → β → Prop} : ∀ {xs : List α} {ys : List β}, Paired R xs ys → (∀ x ∈ xs, ∀ y, R x y → S x y) → Paired S xs ys
  | _, _, .nil, _ => .nil
  | _, _, .cons h t, f => .cons (f _ List.mem_cons_self _ h) (paired_mem t fun x hx => f x (List.mem_cons_of_mem _ hx))
/-- list(d.items()) -/
theorem we_itemsL {Q : D → Cells → Prop} (hc : X.calm = true) (hg : Gl X "list") (hm : X.mg "list" = none) (h : WE X P e δ M fun d M1 => ∃ (q : Addr) (k : Nat) (xs : List (Int × Int)), d = .cel q ∧ M1[k]? = some (q, .dct (kvI xs)) ∧ Q (.lst (bookD xs)) M1)
    (hbase : attributeBase e "items" X.env (eval e X.env) = eval e X.env := by rfl) (hline : (apos.endLine == cpos.line) = true := by rfl)
    (hs : starEach [.Call (.Attribute e "items" apos) [] [] cpos] X.env = (false, eval (.Call (.Attribute e "items" apos) [] [] cpos) X.env) :: starEach [] X.env := by rfl) :
    WE X P (.Call (.Name "list" p) [.Call (.Attribute e "items" apos) [] [] cpos] [] pos) δ M Q :=
  we_of (LiI.pe_listItems hc pe_sem hg hm (by decide +kernel) hbase hline hs) fun σ H F G => h.go G fun v H1 F1 M1 d s1 G1 r1 q1 => by
    obtain ⟨q, k, xs, rfl, hk, q1⟩ := q1
    cases r1
    refine ⟨q, kvV xs, rfl, G1.st.dctAt hk, fun H' p ts hH hp hts hpt hl hpr => ?_⟩
    have fp : F1 p = none := G1.st.none_of hp
    have ft : ∀ t ∈ ts, F1 t = none := fun t ht => G1.st.none_of (hts t ht)
    let F' : Hp := fun b => if b = p then H' p else if b ∈ ts then H' b else F1 b
    have fF : ∀ b, b ≠ p → b ∉ ts → F' b = F1 b := fun b h1 h2 => by show (if b = p then _ else _) = _; rw [if_neg h1, if_neg h2]
    have fT : ∀ b, b ∈ ts → F' b = H' b := fun b h2 => by
      show (if b = p then _ else _) = _
      rw [if_neg (fun e => hpt (by rw [← e]; exact h2)), if_pos h2]
    have fP : F' p = H' p := by show (if p = p then _ else _) = _; rw [if_pos rfl]
    have s : Same F1 F' := fun b u e => by
      rw [fF b (fun z => by rw [z, fp] at e; cases e) (fun z => by rw [ft b z] at e; cases e)]
      exact e
    have le : Same F' H' := fun b u e => by
      by_cases h1 : b = p
      · rw [h1, fP] at e; rw [h1]; exact e
      · by_cases h2 : b ∈ ts
        · rw [fT b h2] at e; exact e
        · rw [fF b h1 h2] at e; exact hH _ _ (G1.st.le _ _ e)
    have nw : ∀ b o, F' b = some o → F1 b = none → H1 b = none := fun b o e1 e2 => by
      by_cases h1 : b = p
      · rw [h1]; exact hp
      · by_cases h2 : b ∈ ts
        · exact hts b h2
        · rw [fF b h1 h2, e2] at e1; cases e1
    have S' := G1.st.ext s hH le nw
    refine ret S' (s1.trans s) (.lst (.of (fP.trans hl)) (items_reps (paired_mem hpr fun t ht y hy => (fT t ht).trans hy))) q1
end
end PW
/-! MFor -/
namespace PW
open PySem
theorem lookI_snoc (i k v : Int) : ∀ xs : List (Int × Int), lookI (xs ++ [(k, v)]) i = match lookI xs i with | some u => some u | none => if k = i then some v else none
  | [] => by
    unfold lookI
    by_cases e : k = i <;> simp [e]
  | x :: xs => by
    have ih := lookI_snoc i k v xs
    by_cases e : x.1 = i
    · unfold lookI; simp [e]
    · unfold lookI at ih ⊢
      rw [List.cons_append, List.find?_cons, List.find?_cons, decide_eq_false e]
      exact ih
theorem lookI_mem {ys : List (Int × Int)} {i : Int} (h : i ∈ ys.map Prod.fst) : ∃ v, lookI ys i = some v ∧ (i, v) ∈ ys := by
  have hs : (lookI ys i).isSome = true := by rw [look_some, decide_eq_true h]
  unfold lookI at hs ⊢
  cases e : ys.find? fun x => decide (x.1 = i) with
  | none => rw [e] at hs; cases hs
  | some x =>
    have h1 := List.find?_some e
    have h2 := List.mem_of_find?_eq_some e
    obtain ⟨u, v⟩ := x
    obtain rfl : u = i := of_decide_eq_true h1
    exact ⟨v, rfl, h2⟩
theorem lookI_of {xs : List (Int × Int)} (nd : (xs.map Prod.fst).Nodup) {x : Int × Int} (h : x ∈ xs) : lookI xs x.1 = some x.2 := by
  induction xs with
  | nil => cases h
  | cons y ys ih =>
    rw [List.map_cons, List.nodup_cons] at nd
    rcases List.mem_cons.mp h with rfl | h
    · unfold lookI; simp
    · have ne : ¬ y.1 = x.1 := fun e => nd.1 (List.mem_map.mpr ⟨x, h, e.symm⟩)
      have := ih nd.2 h
      unfold lookI at this ⊢
      rw [List.find?_cons, decide_eq_false ne]
      exact this
/-- what is put in at pl -/
noncomputable def fillX (ys : List (Int × Int)) (pl : Int) : Int := Classical.epsilon fun X : Int => ∀ x ∈ ys, (pl - x.1) ∣ (X - x.2)
noncomputable def fillV (ys : List (Int × Int)) (pl : Int) : Int := fillX ys pl % lcmF (ys.map fun x => pl - x.1)
noncomputable def fillTo (xs : List (Int × Int)) (a : Int) : Nat → List (Int × Int)
  | 0 => xs
  | j + 1 => if (a + j) ∈ (fillTo xs a j).map Prod.fst then fillTo xs a j else fillTo xs a j ++ [(a + j, fillV (fillTo xs a j) (a + j))]
theorem fillX_ok {ys : List (Int × Int)} (h : ∀ x ∈ ys, ∀ y ∈ ys, (x.1 - y.1) ∣ (x.2 - y.2)) (pl : Int) : ∀ x ∈ ys, (pl - x.1) ∣ (fillX ys pl - x.2) := Classical.epsilon_spec (fit_ex h pl)
structure FilOk (xs : List (Int × Int)) (a : Int) (w j : Nat) (ys : List (Int × Int)) : Prop where
  fit : ∀ x ∈ ys, ∀ y ∈ ys, (x.1 - y.1) ∣ (x.2 - y.2)
  rg : ∀ x ∈ ys, a ≤ x.1 ∧ x.1 ≤ a + w
  bd : ∀ x ∈ ys, x.2.natAbs ≤ 2 ^ 110
  ln : ys.length ≤ xs.length + j
  has : ∀ i : Nat, i < j → a + i ∈ ys.map Prod.fst
  old : ∀ i v, lookI xs i = some v → lookI ys i = some v
theorem FilOk.start {xs : List (Int × Int)} {a : Int} {w : Nat} (h1 : ∀ x ∈ xs, ∀ y ∈ xs, (x.1 - y.1) ∣ (x.2 - y.2)) (h2 : ∀ x ∈ xs, a ≤ x.1 ∧ x.1 ≤ a + w) (h3 : ∀ x ∈ xs, x.2.natAbs ≤ 2 ^ 110) : FilOk xs a w 0 xs :=
  ⟨h1, h2, h3, Nat.le_refl _, fun i h => by omega, fun _ _ h => h⟩
/-- the class at an open place -/
theorem fill_isL {xs ys : List (Int × Int)} {a : Int} {w j : Nat} (h : FilOk xs a w j ys) (hw : w ≤ 40) (hj : j ≤ w) (hn : a + j ∉ ys.map Prod.fst) :
    IsL (ys.map fun x => (a + (j : Nat)) - x.1) (lcmF (ys.map fun x => (a + (j : Nat)) - x.1)) ∧ lcmF (ys.map fun x => (a + (j : Nat)) - x.1) ≤ 2 ^ 64 := by
  have hne : ∀ f ∈ ys.map fun x => (a + (j : Nat)) - x.1, f ≠ 0 := fun f hf => by
    obtain ⟨x, hx, rfl⟩ := List.mem_map.mp hf
    intro e
    exact hn (List.mem_map.mpr ⟨x, hx, by omega⟩)
  refine ⟨lcmF_isL hne, ?_⟩
  have hd : lcmF (ys.map fun x => (a + (j : Nat)) - x.1) ∣ lc 41 := (lcmF_dvd _ _).mpr fun f hf => by
    have f0 := hne f hf
    obtain ⟨x, hx, rfl⟩ := List.mem_map.mp hf
    have r := h.rg x hx
    have := lc_dvd 41 ((a + (j : Nat) - x.1).natAbs - 1) (by omega)
    refine Int.natAbs_dvd.mp ?_
    rwa [show (((a + (j : Nat) - x.1).natAbs - 1 : Nat) : Int) + 1 = ((a + (j : Nat) - x.1).natAbs : Int) by omega] at this
  exact Int.le_trans (Int.le_of_dvd (lc_pos 41) hd) lc_40
theorem fill_fit {ys : List (Int × Int)} {pl : Int} (h : ∀ x ∈ ys, ∀ y ∈ ys, (x.1 - y.1) ∣ (x.2 - y.2)) : ∀ x ∈ ys, (pl - x.1) ∣ (fillV ys pl - x.2) := fun x hx => by
  have h1 := fillX_ok h pl x hx
  have h2 : (pl - x.1) ∣ lcmF (ys.map fun x => pl - x.1) := (lcmF_dvd _ _).mp (Int.dvd_refl _) _ (List.mem_map.mpr ⟨x, hx, rfl⟩)
  unfold fillV
  have h3 := Int.emod_add_mul_ediv (fillX ys pl) (lcmF (ys.map fun x => pl - x.1))
  have h4 : (pl - x.1) ∣ lcmF (ys.map fun x => pl - x.1) * (fillX ys pl / lcmF (ys.map fun x => pl - x.1)) := Int.dvd_trans h2 (Int.dvd_mul_right _ _)
  have := Int.dvd_sub h1 h4
  rwa [show fillX ys pl - x.2 - lcmF (ys.map fun x => pl - x.1) * (fillX ys pl / lcmF (ys.map fun x => pl - x.1)) = fillX ys pl % lcmF (ys.map fun x => pl - x.1) - x.2 by omega] at this
theorem FilOk.stay {xs ys : List (Int × Int)} {a : Int} {w j : Nat} (h : FilOk xs a w j ys) (hn : a + j ∈ ys.map Prod.fst) : FilOk xs a w (j + 1) ys :=
  ⟨h.fit, h.rg, h.bd, by have := h.ln; omega, fun i hi => by
    by_cases e : i = j
    · rw [e]; exact hn
    · exact h.has i (by omega), h.old⟩
theorem FilOk.next {xs ys : List (Int × Int)} {a : Int} {w j : Nat} (h : FilOk xs a w j ys) (hw : w ≤ 40) (hj : j ≤ w) (hn : a + j ∉ ys.map Prod.fst) : FilOk xs a w (j + 1) (ys ++ [(a + j, fillV ys (a + j))]) := by
  obtain ⟨hL, hb⟩ := fill_isL h hw hj hn
  have ff := fill_fit (pl := a + j) h.fit
  refine ⟨?_, ?_, ?_, ?_, ?_, ?_⟩
  · intro x hx y hy
    rcases List.mem_append.mp hx with hx | hx <;> rcases List.mem_append.mp hy with hy | hy
    · exact h.fit x hx y hy
    · obtain rfl := List.mem_singleton.mp hy
      have := Int.dvd_neg.mpr (Int.neg_dvd.mpr (ff x hx))
      rwa [show -(a + (j : Int) - x.1) = x.1 - (a + j) by omega, show -(fillV ys (a + j) - x.2) = x.2 - fillV ys (a + j) by omega] at this
    · obtain rfl := List.mem_singleton.mp hx
      exact ff y hy
    · obtain rfl := List.mem_singleton.mp hx
      obtain rfl := List.mem_singleton.mp hy
      rw [Int.sub_self, Int.sub_self]
      exact Int.dvd_refl _
  · intro x hx
    rcases List.mem_append.mp hx with hx | hx
    · exact h.rg x hx
    · obtain rfl := List.mem_singleton.mp hx
      show a ≤ a + (j : Int) ∧ a + (j : Int) ≤ a + w
      omega
  · intro x hx
    rcases List.mem_append.mp hx with hx | hx
    · exact h.bd x hx
    · obtain rfl := List.mem_singleton.mp hx
      have e1 := Int.emod_nonneg (fillX ys (a + j)) (show lcmF (ys.map fun x => (a + (j : Int)) - x.1) ≠ 0 by have := hL.1; omega)
      have e2 := Int.emod_lt_of_pos (fillX ys (a + j)) hL.1
      show (fillX ys (a + j) % _).natAbs ≤ _
      have : ((2 : Nat) ^ 64 : Nat) ≤ 2 ^ 110 := by decide
      omega
  · rw [List.length_append, List.length_singleton]
    have := h.ln
    omega
  · intro i hi
    rw [List.map_append]
    by_cases e : i = j
    · rw [e]; exact List.mem_append_right _ (List.mem_singleton.mpr rfl)
    · exact List.mem_append_left _ (h.has i (by omega))
  · intro i v hv
    rw [lookI_snoc, h.old i v hv]
theorem fillTo_ok {xs : List (Int × Int)} {a : Int} {w : Nat} (hw : w ≤ 40) (h : FilOk xs a w 0 xs) : ∀ j, j ≤ w + 1 → FilOk xs a w j (fillTo xs a j)
  | 0, _ => h
  | j + 1, hj => by
    have ih := fillTo_ok hw h j (by omega)
    show FilOk xs a w (j + 1) (if _ then _ else _)
    split
    · next hc => exact ih.stay hc
    · next hc => exact ih.next hw (by omega) hc
/-- the row of a filled book -/
def rowY (ys : List (Int × Int)) (a : Int) (n : Nat) : List Int := (List.range n).map fun i : Nat => (lookI ys (a + (i : Nat))).getD 0
theorem rowY_len (ys : List (Int × Int)) (a : Int) (n : Nat) : (rowY ys a n).length = n := by unfold rowY; rw [List.length_map, List.length_range]
theorem rowY_at {ys : List (Int × Int)} {a : Int} {n i : Nat} (h : i < n) : (rowY ys a n).getD i 0 = (lookI ys (a + (i : Nat))).getD 0 := by
  unfold rowY
  rw [List.getD_eq_getElem?_getD, List.getElem?_map, List.getElem?_range h]
  rfl
theorem rowY_mem {xs ys : List (Int × Int)} {a : Int} {w i : Nat} (h : FilOk xs a w (w + 1) ys) (hi : i < w + 1) : (a + (i : Nat), (rowY ys a (w + 1)).getD i 0) ∈ ys ∧ lookI ys (a + (i : Nat)) = some ((rowY ys a (w + 1)).getD i 0) := by
  obtain ⟨v, h1, h2⟩ := lookI_mem (h.has i hi)
  rw [rowY_at hi, h1]
  exact ⟨h2, rfl⟩
theorem rowY_fit {xs ys : List (Int × Int)} {a : Int} {w : Nat} (h : FilOk xs a w (w + 1) ys) : FitS (rowY ys a (w + 1)) := fun i j hi hj => by
  rw [rowY_len] at hi hj
  have := h.fit _ (rowY_mem h hi).1 _ (rowY_mem h hj).1
  rwa [show (a + (i : Int), (rowY ys a (w + 1)).getD i 0).1 - (a + (j : Int), (rowY ys a (w + 1)).getD j 0).1 = (i : Int) - j by show a + (i : Int) - (a + (j : Int)) = _; omega] at this
/-- the row through a filled book, as a function -/
def forF (ys : List (Int × Int)) (a : Int) (w : Nat) : Int → Int := fun x => nwTo (atS (rowY ys a (w + 1))) x (w + 1)
theorem forF_keeps {xs ys : List (Int × Int)} {a : Int} {w : Nat} (h : FilOk xs a w (w + 1) ys) : Keeps (forF ys a w) :=
  nwTo_keeps (w + 1) fun i hi => fitS_dif (rowY_fit h) i (by rw [rowY_len]; exact hi)
theorem forF_deg (ys : List (Int × Int)) (a : Int) (w : Nat) : Deg (w + 1) (forF ys a w) := nwTo_deg _ _
theorem forF_at {ys : List (Int × Int)} {a : Int} {w i : Nat} (hi : i < w + 1) : forF ys a w (i : Nat) = (rowY ys a (w + 1)).getD i 0 := newton (w + 1) (atS (rowY ys a (w + 1))) i hi
theorem forF_bd {xs ys : List (Int × Int)} {a : Int} {w i : Nat} (h : FilOk xs a w (w + 1) ys) (hi : i < w + 1) : (forF ys a w (i : Nat)).natAbs ≤ 2 ^ 110 := by
  rw [forF_at hi]
  exact h.bd _ (rowY_mem h hi).1
theorem forF_book {xs ys : List (Int × Int)} {a : Int} {w : Nat} (h : FilOk xs a w (w + 1) ys) (nd : (xs.map Prod.fst).Nodup) {x : Int × Int} (hx : x ∈ xs) (h0 : a ≤ x.1) (h1 : x.1 ≤ a + w) : forF ys a w (x.1 - a) = x.2 := by
  obtain ⟨i, hi⟩ : ∃ i : Nat, x.1 - a = i := ⟨(x.1 - a).toNat, by omega⟩
  rw [hi, forF_at (by omega), rowY_at (by omega), show a + (i : Int) = x.1 by omega, h.old _ _ (lookI_of nd hx)]
  rfl
end PW
/-! PWBr -/
open PySem PyProof.Rows
namespace PW
open PySem L2 PyProof.Rows
theorem turn_longrange {P : Program} {w : World} {K : PySem.W.Frag} {tg : Expr} (it : Addr) (lo : Int) (n : Nat) : Turn P w K tg (Itr lo n) [it] it (fun i h => IsLongIter h it (lo + (i : Nat) * 1) ((n : Int) - (i : Nat)) 1) where
  mem := by simp
  obj := fun i h st b hb => by
    have e : b = it := by simpa using hb
    subst e
    exact ⟨_, st, fun v z => by
      have z' : Data.fields _ = Data.cell v := z
      cases z'⟩
  keep := fun i h h' st k => k it (by simp) _ st
  item := by
    intro X hP hw hK hc i pins s σ H E I hf st hg
    subst hP hw hK
    obtain ⟨f0, f1, f2, f3, f4, f5⟩ := hf it (by simp)
    have W := Walks.longrange (prog := X.prog) (w := X.w) (I.ok.hd hc) it lo 1 n
    refine W.item i s _ _ hg st fun v h' tk hv st' kk => ?_
    obtain ⟨t, rfl⟩ := hv
    have I1 : Inv X pins σ H { s with heap := h', toks := tk } := I.turned (fun b o hb e => kk b o (by simpa using hb) e) f0 f1 f3 f4 f5
    refine ⟨_, rfl, go_of (s := { s with heap := h', toks := tk }) (n := "longrange_iterator") st' rfl rfl (by decide) ⟨.int (lo + i), H, I1, ⟨t, ?_⟩, ⟨rfl, rfl⟩, st', fun b hb => (hf b hb).1⟩⟩
    rw [Int.mul_one]
  done := by
    intro X hP hw hK hc i pins s σ H E I hf st hg
    subst hP hw hK
    obtain ⟨f0, f1, f2, f3, f4, f5⟩ := hf it (by simp)
    exact wpAny_pyNext_long_end (I.ok.hd hc) st (by have : n ≤ i := hg; omega) fun h' eb => ⟨rfl, I.turned (t' := s.toks) (fun b o hb e => eb b o hb e) f0 f1 f3 f4 f5⟩
  self := fun _ _ _ _ _ st h => wpAny_pyIter_longiter st h
/-- a range object just made, walked: ints of any size -/
theorem range_itA {X : Cx} {tg : Expr} {pins : List (Addr × Obj)} {σ : L2.St} {H : Hp} {s : Shared} {R : It → Hp → Prop} {E : Value → Shared → Prop} {lo hi : Int} {t u v : Tok} {tk : Nat} (I : Inv X pins σ H s)
    (q : R (Itr lo (hi - lo).toNat) H) : wpAny (model X.prog X.w) X.A (pyIter (.ref s.heap.objs.size)) (PIE X pins σ tg R) E { s with heap := s.heap.push { cls := .type "range", data := .fields #[.int lo t, .int hi u, .int 1 v] }, toks := tk } := by
  have I1 : Inv X pins σ H { s with heap := s.heap.push { cls := .type "range", data := .fields #[.int lo t, .int hi u, .int 1 v] }, toks := tk } := I.kept fun b o e => Heap.get?_push_of_some _ e
  have e1 : lo + ((0 : Nat) : Int) * 1 = lo := by simp
  have e2 : (((hi - lo).toNat : Nat) : Int) - ((0 : Nat) : Int) = Builtin.Range.rangeSize lo hi 1 := by rw [rangeSize_one]; split <;> omega
  cases hs : Builtin.Range.small lo hi 1 with
  | true =>
    refine wpAny_pyIter_range (IsRange.new ..) hs ?_
    refine ⟨(s.heap.push { cls := .type "range", data := .fields #[.int lo t, .int hi u, .int 1 v] }).objs.size, [(s.heap.push { cls := .type "range", data := .fields #[.int lo t, .int hi u, .int 1 v] }).objs.size], _, _, H, rfl,
      I1.kept (t' := tk) fun b o e => Heap.get?_push_of_some _ e, turn_range _ lo (hi - lo).toNat, ?_, fun b hb => ?_, q⟩
    · show IsRangeIter _ _ (lo + ((0 : Nat) : Int) * 1) ((((hi - lo).toNat : Nat) : Int) - ((0 : Nat) : Int)) 1
      rw [e1, e2]
      exact Heap.get?_push_size _ rfl
    · have e : b = (s.heap.push { cls := .type "range", data := .fields #[.int lo t, .int hi u, .int 1 v] }).objs.size := by simpa using hb
      subst e
      exact I1.fpOk (Nat.le_refl _) (I1.hok.fresh (Nat.le_refl _))
  | false =>
    refine wpAny_pyIter_longrange (IsRange.new ..) hs ?_
    refine ⟨(s.heap.push { cls := .type "range", data := .fields #[.int lo t, .int hi u, .int 1 v] }).objs.size, [(s.heap.push { cls := .type "range", data := .fields #[.int lo t, .int hi u, .int 1 v] }).objs.size], _, _, H, rfl,
      I1.kept (t' := tk) fun b o e => Heap.get?_push_of_some _ e, turn_longrange _ lo (hi - lo).toNat, ?_, fun b hb => ?_, q⟩
    · show IsLongIter _ _ (lo + ((0 : Nat) : Int) * 1) ((((hi - lo).toNat : Nat) : Int) - ((0 : Nat) : Int)) 1
      rw [e1, e2]
      exact Heap.get?_push_size _ rfl
    · have e : b = (s.heap.push { cls := .type "range", data := .fields #[.int lo t, .int hi u, .int 1 v] }).objs.size := by simpa using hb
      subst e
      exact I1.fpOk (Nat.le_refl _) (I1.hok.fresh (Nat.le_refl _))
def iRng2A (ta : TA) : TI := fun σ H R => ta σ H fun vs H1 => ∃ i j : Int, vs = [.int i, .int j] ∧ R (Itr i (j - i).toNat) H1
theorem pi_range2A {X : Cx} {tg : Expr} {a b : Expr} {ta : TA} {p pos : Pos} (hg : Gl X "range") (hm : X.mg "range" = none) (ha : PA X [a, b] ta) (hs : starEach [a, b] X.env = [(false, eval a X.env), (false, eval b X.env)] := by rfl) (hs2 : starEach [b] X.env = [(false, eval b X.env)] := by rfl) :
    PI X tg (.Call (.Name "range" p) [a, b] [] pos) (iRng2A ta) := by
  refine ⟨fun pins s σ H R I h => ?_⟩
  refine Call_ (ld_blt I hg hm boot_range (PyProof.Rows.callWith_type1 (thn (ha.run pos pins s σ H _ I h) fun us s1 ⟨vs, H1, I1, r1, q1⟩ => ?_) (by rw [hs, hs2]) (by rw [hs2]; rfl)))
  obtain ⟨i, j, e, q⟩ := q1
  subst e
  cases r1 with
  | cons r rr =>
    cases rr with
    | cons r' rr =>
      cases rr
      obtain ⟨t, rfl⟩ := r
      obtain ⟨t', rfl⟩ := r'
      exact call_range_2 (range_itA I1 q)
section
variable {X : Cx} {P : XP} {M : Cells} {δ : Slots} {a b : Expr} {p pos : Pos}
/-- range(i, j), any ints -/
theorem wi_range2A {tg : Expr} {R : List D → (Cells → Prop) → Cells → Prop} (hg : Gl X "range") (hm : X.mg "range" = none) (h : WA X P [a, b] δ M fun ds M1 => ∃ i j : Int, ds = [.int i, .int j] ∧ R (rangeD i (j - i).toNat) (fun _ => True) M1) (hs : starEach [a, b] X.env = [(false, eval a X.env), (false, eval b X.env)] := by rfl) (hs2 : starEach [b] X.env = [(false, eval b X.env)] := by rfl) : WI X P tg (.Call (.Name "range" p) [a, b] [] pos) δ M R :=
  wi_of (pi_range2A hg hm pa_sem hs hs2) fun σ H F G => h.go G fun vs H1 F1 M1 ds s1 G1 r1 ⟨i, j, e, q⟩ => by
    subst e
    obtain ⟨v, w, rfl, r, r'⟩ := r1.two
    cases r; cases r'
    exact ⟨i, j, rfl, F1, M1, _, _, s1, G1.st, walkP_range, q⟩
end
end PW
namespace PW
open PySem L2 PyProof.Rows
local macro_rules
  | `(tactic| walk_at "lk") => `(tactic| first | assumption | exact set_get (by assumption))
  | `(tactic| walk_at "lv") => `(tactic| first | exact LV.l | exact LV.c 0 rfl | exact LV.c 1 rfl | exact LV.c 2 rfl | exact LV.c _ (by walk_at "lk"))
  | `(tactic| walk_at "cl") => `(tactic| first | refine cl_set (by assumption) ?_ | refine cl_0 ?_ | (refine cl_skip ?_; walk_at "cl") | refine cl_k (by assumption) ?_)
  | `(tactic| walk_at "r") => `(tactic| first | assumption | exact room_le (by assumption) (by decide))
  | `(tactic| walk_at "u") => `(tactic| exact Room.units (by assumption))
  | `(tactic| walk_at "eWEConstant") => `(tactic| first
  | ((with_reducible show WE _ _ (Expr.Constant (Const.int _) _ _) _ _ _); refine we_int ?_)
  | ((with_reducible show WE _ _ (Expr.Constant (Const.str _) _ _) _ _ _); refine we_str ?_)
  | ((with_reducible show WE _ _ (Expr.Constant (Const.bool _) _ _) _ _ _); refine we_bl ?_)
  | ((with_reducible show WE _ _ (Expr.Constant Const.none _ _) _ _ _); refine we_non ?_))
  | `(tactic| walk_at "eWECall") => `(tactic| first
  | ((with_reducible refine gC "len" ?_); refine we_len rfl (by assumption) ?_)
  | ((with_reducible refine gC "int" ?_); refine we_int2 rfl (by assumption) ?_)
  | ((with_reducible refine gC "abs" ?_); refine we_abs rfl (by assumption) ?_)
  | ((with_reducible refine gC "max" ?_); refine we_max2 rfl rfl (by assumption) ?_)
  | ((with_reducible refine gC "min" ?_); refine we_min2 rfl rfl (by assumption) ?_)
  | ((with_reducible refine gC "isinstance" ?_); refine we_isi rfl (by assumption) ?_)
  | ((with_reducible refine gC "str" ?_); refine we_str1 rfl (by assumption) ?_)
  | ((with_reducible refine gC "list" ?_); refine we_list rfl (by assumption) ?_)
  | ((with_reducible refine gC "all" ?_); refine we_all rfl rfl (by assumption) ?_)
  | ((with_reducible refine gC "any" ?_); refine we_any rfl rfl (by assumption) ?_)
  | ((with_reducible refine gC "sum" ?_); refine we_sum rfl rfl (by assumption) ?_)
  | ((with_reducible show WE _ _ (Expr.Call (Expr.Name "sorted" _) [Expr.Call (Expr.Name "set" _) _ _ _] _ _) _ _ _); refine we_sortedSet rfl rfl (by assumption) rfl (by assumption) ?_)
  | ((with_reducible show WE _ _ (Expr.Call (Expr.Attribute _ "bit_length" _) _ _ _) _ _ _); refine we_bits ?_)
  | ((with_reducible show WE _ _ (Expr.Call (Expr.Attribute _ "join" _) _ _ _) _ _ _); refine we_join ?_)
  | ((with_reducible show WE _ _ (Expr.Call (Expr.Attribute _ "split" _) _ _ _) _ _ _); refine we_split ?_)
  | ((with_reducible show WE _ _ (Expr.Call (Expr.Attribute _ "append" _) _ _ _) _ _ _); refine we_append ?_)
  | ((with_reducible show WE _ _ (Expr.Call (Expr.Name _ _) _ _ _) _ _ _); walk_at "c"))
  | `(tactic| walk_at "eWECompare") => `(tactic| first
  | ((with_reducible show WE _ _ (Expr.Compare _ [CmpOp.Eq] _ _) _ _ _); refine we_eq (by walk_at "u") ?_)
  | ((with_reducible show WE _ _ (Expr.Compare _ [CmpOp.NotEq] _ _) _ _ _); refine we_ne (by walk_at "u") ?_)
  | ((with_reducible show WE _ _ (Expr.Compare _ [CmpOp.In] _ _) _ _ _); refine we_in ?_)
  | ((with_reducible show WE _ _ (Expr.Compare _ [CmpOp.NotIn] _ _) _ _ _); refine we_notIn ?_)
  | ((with_reducible show WE _ _ (Expr.Compare _ [CmpOp.Lt] _ _) _ _ _); refine we_lt ?_)
  | ((with_reducible show WE _ _ (Expr.Compare _ [CmpOp.LtE] _ _) _ _ _); refine we_le ?_)
  | ((with_reducible show WE _ _ (Expr.Compare _ [CmpOp.Gt] _ _) _ _ _); refine we_gt ?_)
  | ((with_reducible show WE _ _ (Expr.Compare _ [CmpOp.GtE] _ _) _ _ _); refine we_ge ?_)
  | ((with_reducible show WE _ _ (Expr.Compare _ [CmpOp.Is] [Expr.Constant Const.none _ _] _) _ _ _); refine we_isN ?_)
  | ((with_reducible show WE _ _ (Expr.Compare _ [CmpOp.IsNot] [Expr.Constant Const.none _ _] _) _ _ _); refine we_notN ?_)
  | ((with_reducible show WE _ _ (Expr.Compare _ [CmpOp.LtE, CmpOp.LtE] _ _) _ _ _); refine we_lele ?_))
  | `(tactic| walk_at "eWTCompare") => `(tactic| first
  | ((with_reducible show WT _ _ (Expr.Compare _ [CmpOp.In] _ _) _ _ _); refine wt_in ?_)
  | ((with_reducible show WT _ _ (Expr.Compare _ [CmpOp.NotIn] _ _) _ _ _); refine wt_notIn ?_)
  | ((with_reducible show WT _ _ (Expr.Compare _ [CmpOp.LtE, CmpOp.LtE] _ _) _ _ _); refine wt_lele ?_)
  | ((with_reducible show WT _ _ (Expr.Compare _ [CmpOp.LtE, CmpOp.Lt] _ _) _ _ _); refine wt_lelt ?_)
  | ((with_reducible show WT _ _ (Expr.Compare _ [CmpOp.Lt] _ _) _ _ _); refine wt_lt ?_)
  | ((with_reducible show WT _ _ (Expr.Compare _ [CmpOp.LtE] _ _) _ _ _); refine wt_le ?_)
  | ((with_reducible show WT _ _ (Expr.Compare _ [CmpOp.Gt] _ _) _ _ _); refine wt_gt ?_)
  | ((with_reducible show WT _ _ (Expr.Compare _ [CmpOp.GtE] _ _) _ _ _); refine wt_ge ?_)
  | ((with_reducible show WT _ _ (Expr.Compare _ [CmpOp.Eq] _ _) _ _ _); refine wt_eq (by walk_at "u") ?_)
  | ((with_reducible show WT _ _ (Expr.Compare _ [CmpOp.NotEq] _ _) _ _ _); refine wt_ne (by walk_at "u") ?_)
  | ((with_reducible show WT _ _ (Expr.Compare _ [CmpOp.Is] [Expr.Constant Const.none _ _] _) _ _ _); refine wt_isN ?_)
  | ((with_reducible show WT _ _ (Expr.Compare _ [CmpOp.IsNot] [Expr.Constant Const.none _ _] _) _ _ _); refine wt_notN ?_))
  | `(tactic| walk_at "eWK") => `(tactic| first
  | ((with_reducible show WK _ _ [] _ _ _); refine wk_nil ?_)
  | ((with_reducible show WK _ _ (_ :: _) _ _ _); refine wk_cons ?_))
  | `(tactic| walk_at "eWEBinOp") => `(tactic| first
  | ((with_reducible show WE _ _ (Expr.BinOp _ Operator.Sub _ _) _ _ _); refine we_sub ?_)
  | ((with_reducible show WE _ _ (Expr.BinOp _ Operator.Add _ _) _ _ _); refine we_add ?_)
  | ((with_reducible show WE _ _ (Expr.BinOp _ Operator.Mult _ _) _ _ _); refine we_mul ?_)
  | ((with_reducible show WE _ _ (Expr.BinOp _ Operator.Mod _ _) _ _ _); refine we_mod ?_)
  | ((with_reducible show WE _ _ (Expr.BinOp _ Operator.FloorDiv _ _) _ _ _); refine we_fdiv ?_)
  | ((with_reducible show WE _ _ (Expr.BinOp _ Operator.Pow _ _) _ _ _); refine we_pow ?_))
  | `(tactic| walk_at "eWEUnaryOp") => `(tactic| first
  | ((with_reducible show WE _ _ (Expr.UnaryOp UnaryOp.USub _ _) _ _ _); refine we_neg ?_)
  | ((with_reducible show WE _ _ (Expr.UnaryOp UnaryOp.Not _ _) _ _ _); refine we_not ?_))
  | `(tactic| walk_at "eWESubscript") => `(tactic| first
  | ((with_reducible show WE _ _ (Expr.Subscript _ (Expr.Slice _ _ _ _) _) _ _ _); refine we_sl ?_)
  | ((with_reducible refine gESu ?_); refine we_ix ?_ (fun _ _ => rfl)))
  | `(tactic| walk_at "eWW") => `(tactic| first
  | ((with_reducible show WW _ _ (Expr.BoolOp BoolOp.And [_] _) _ _ _); refine ww_and1 ?_)
  | ((with_reducible show WW _ _ (Expr.BoolOp BoolOp.Or [_] _) _ _ _); refine ww_or1 ?_)
  | ((with_reducible show WW _ _ (Expr.BoolOp BoolOp.And _ _) _ _ _); refine ww_and ?_)
  | ((with_reducible show WW _ _ (Expr.BoolOp BoolOp.Or _ _) _ _ _); refine ww_or ?_))
  | `(tactic| walk_at "eWEBoolOp") => `(tactic| first
  | ((with_reducible show WE _ _ (Expr.BoolOp _ [_] _) _ _ _); refine we_one ?_)
  | ((with_reducible show WE _ _ (Expr.BoolOp BoolOp.And _ _) _ _ _); refine we_and ?_)
  | ((with_reducible show WE _ _ (Expr.BoolOp BoolOp.Or _ _) _ _ _); refine we_or ?_))
  | `(tactic| walk_at "eWA") => `(tactic| first
  | ((with_reducible show WA _ _ [] _ _ _); refine wa_nil ?_)
  | ((with_reducible show WA _ _ (_ :: _) _ _ _); refine wa_cons ?_))
  | `(tactic| walk_at "eWO") => `(tactic| first
  | ((with_reducible show WO _ _ none _ _ _); refine wo_none ?_)
  | ((with_reducible show WO _ _ (some _) _ _ _); refine wo_some ?_))
  | `(tactic| walk_at "eEx") => `(tactic| first
  | ((with_reducible show ∃ i j, D.int _ = D.int i ∧ D.int _ = D.int j ∧ _ ∧ _); refine ⟨_, _, rfl, rfl, ?_, ?_⟩)
  | ((with_reducible show ∃ i j, D.int _ = D.int i ∧ D.int _ = D.int j ∧ _); refine ⟨_, _, rfl, rfl, ?_⟩)
  | ((with_reducible show ∃ z, atI _ _ = some z ∧ _); refine ⟨_, rfl, ?_⟩)
  | ((with_reducible show ∃ j, ixN _ _ = some j ∧ _); refine ⟨_, rfl, ?_⟩)
  | ((with_reducible show ∃ q, D.cel _ = D.cel q ∧ (∃ (k : Nat) (ds : List D), _) ∧ _); refine app0_cl (by walk_at "cl"; trivial) ?_)
  | ((with_reducible show ∃ (y : D) (k : Nat) (ds : List D), [_] = [y] ∧ _ ∧ _ ∧ _); refine app_cl ?_)
  | ((with_reducible show ∃ i, D.int _ = D.int i ∧ _); refine ⟨_, rfl, ?_⟩)
  | ((with_reducible show ∃ i, D.bl _ = D.bl i ∧ _); refine ⟨_, rfl, ?_⟩)
  | ((with_reducible show ∃ ds i z, LV _ _ ds ∧ D.int _ = D.int i ∧ _ ∧ _); refine' ⟨_, _, _, ?lv, rfl, ?ixe, ?_⟩; (case lv => walk_at "lv"); (case ixe => rfl))
  | ((with_reducible show ∃ k q ds z j, D.cel _ = D.cel q ∧ _ ∧ D.int _ = D.int z ∧ _ ∧ _); refine wgs_cl ?_)
  | ((with_reducible show ∃ i, [D.int _] = [D.int i] ∧ _); refine ⟨_, rfl, ?_⟩))
  | `(tactic| walk_at "eREq") => `(tactic| first
  | ((with_reducible show REq false (D.int _) (D.int _) _ _); refine req_i ?_)
  | ((with_reducible show REq true (D.int _) (D.int _) _ _); refine req_iN ?_)
  | ((with_reducible show REq false (D.str _) (D.str _) _ _); refine req_s ?_)
  | ((with_reducible show REq true (D.str _) (D.str _) _ _); refine req_sN ?_)
  | ((with_reducible show REq false (D.bl _) (D.bl _) _ _); refine req_b ?_)
  | ((with_reducible show REq true (D.bl _) (D.bl _) _ _); refine req_bN ?_))
  | `(tactic| walk_at "eRIx") => `(tactic| first
  | ((with_reducible show RIx (D.lst _) (D.int _) _ _); refine rix_l ?_)
  | ((with_reducible show RIx (D.cel _) (D.int _) _ _); refine rix_cl ?_)
  | ((with_reducible show RIx (D.tup _) (D.int _) _ _); refine rix_t ?_))
  | `(tactic| walk_at "eOr") => `(tactic| first
  | ((with_reducible show RIsi [D.int _, D.tup _] _ _ ∨ _); first | refine isi2 (t := "int") (b := true) rfl (by decide) (by decide) (by decide) ?_ | refine isi2 (t := "int") (b := false) rfl (by decide) (by decide) (by decide) ?_)
  | ((with_reducible show RIsi [D.bl _, D.tup _] _ _ ∨ _); first | refine isi2 (t := "bool") (b := true) rfl (by decide) (by decide) (by decide) ?_ | refine isi2 (t := "bool") (b := false) rfl (by decide) (by decide) (by decide) ?_)
  | ((with_reducible show RIsi [D.str _, D.tup _] _ _ ∨ _); first | refine isi2 (t := "str") (b := true) rfl (by decide) (by decide) (by decide) ?_ | refine isi2 (t := "str") (b := false) rfl (by decide) (by decide) (by decide) ?_)
  | ((with_reducible show RIsi [D.tup _, D.tup _] _ _ ∨ _); first | refine isi2 (t := "tuple") (b := true) rfl (by decide) (by decide) (by decide) ?_ | refine isi2 (t := "tuple") (b := false) rfl (by decide) (by decide) (by decide) ?_)
  | ((with_reducible show RIsi [D.lst _, D.tup _] _ _ ∨ _); first | refine isi2 (t := "list") (b := true) rfl (by decide) (by decide) (by decide) ?_ | refine isi2 (t := "list") (b := false) rfl (by decide) (by decide) (by decide) ?_)
  | ((with_reducible show RIsi [D.non, D.tup _] _ _ ∨ _); first | refine isi2 (t := "NoneType") (b := true) rfl (by decide) (by decide) (by decide) ?_ | refine isi2 (t := "NoneType") (b := false) rfl (by decide) (by decide) (by decide) ?_)
  | ((with_reducible show RIsi [D.int _, D.raw _] _ _ ∨ _); first | refine isi1 (t := "int") (b := true) rfl (by decide) (by decide) ?_ | refine isi1 (t := "int") (b := false) rfl (by decide) (by decide) ?_)
  | ((with_reducible show RIsi [D.bl _, D.raw _] _ _ ∨ _); first | refine isi1 (t := "bool") (b := true) rfl (by decide) (by decide) ?_ | refine isi1 (t := "bool") (b := false) rfl (by decide) (by decide) ?_)
  | ((with_reducible show RIsi [D.str _, D.raw _] _ _ ∨ _); first | refine isi1 (t := "str") (b := true) rfl (by decide) (by decide) ?_ | refine isi1 (t := "str") (b := false) rfl (by decide) (by decide) ?_)
  | ((with_reducible show RIsi [D.tup _, D.raw _] _ _ ∨ _); first | refine isi1 (t := "tuple") (b := true) rfl (by decide) (by decide) ?_ | refine isi1 (t := "tuple") (b := false) rfl (by decide) (by decide) ?_)
  | ((with_reducible show RIsi [D.lst _, D.raw _] _ _ ∨ _); first | refine isi1 (t := "list") (b := true) rfl (by decide) (by decide) ?_ | refine isi1 (t := "list") (b := false) rfl (by decide) (by decide) ?_)
  | ((with_reducible show RIsi [D.non, D.raw _] _ _ ∨ _); first | refine isi1 (t := "NoneType") (b := true) rfl (by decide) (by decide) ?_ | refine isi1 (t := "NoneType") (b := false) rfl (by decide) (by decide) ?_)
  | ((with_reducible show (∃ i, [D.int _] = [D.int i] ∧ _) ∨ _); refine .inl ⟨_, rfl, ?_⟩))
  | `(tactic| walk_at "eRAdd") => `(tactic| first
  | ((with_reducible show RAdd (D.str _) (D.str _) _ _); refine .inr (.inl ⟨_, _, rfl, rfl, ?_, ?_⟩))
  | ((with_reducible show RAdd (D.int _) (D.int _) _ _); refine .inl ⟨_, _, rfl, rfl, ?_⟩))
  | `(tactic| walk_at "eRSl") => `(tactic| first
  | ((with_reducible show RSl (D.str _) _ _ _ _); refine .inr ⟨_, rfl, ?_, ?_⟩)
  | ((with_reducible show RSl (D.lst _) _ _ _ _); refine .inl ⟨_, .l, ?_⟩))
  | `(tactic| walk_at "eAnd") => `(tactic| first
  | ((with_reducible show (∀ v, D.int _ ≠ D.raw v) ∧ _); refine nr_int ?_)
  | ((with_reducible show (∀ v, D.non ≠ D.raw v) ∧ _); refine nr_non ?_)
  | ((with_reducible show (∀ v, D.tup _ ≠ D.raw v) ∧ _); refine nr_tup ?_)
  | ((with_reducible show (∀ v, D.cel _ ≠ D.raw v) ∧ _); refine ⟨fun v e => (by cases e), ?_⟩)
  | ((with_reducible show (∀ v, D.lst _ ≠ D.raw v) ∧ _); refine ⟨fun v e => (by cases e), ?_⟩)
  | ((with_reducible show List.length _ ≤ sizeLine ∧ _); refine ⟨Nat.le_of_ble_eq_true rfl, ?_⟩))
  | `(tactic| walk_at "eRLen") => `(tactic| first
  | ((with_reducible show RLen [D.lst _] _ _); refine .inl ⟨_, _, rfl, .l, ?_⟩)
  | ((with_reducible show RLen [D.cel _] _ _); refine rlen_cl ?_)
  | ((with_reducible show RLen [D.str _] _ _); refine .inr (.inr ⟨_, rfl, ?_, ?_⟩))
  | ((with_reducible show RLen [D.tup _] _ _); refine .inr (.inl ⟨_, rfl, ?_⟩)))
  | `(tactic| walk_at "eWE") => `(tactic| first
  | ((with_reducible refine gENm ?_); walk_at "n")
  | ((with_reducible refine gECn ?_); walk_at "eWEConstant")
  | ((with_reducible refine gECl ?_); walk_at "eWECall")
  | ((with_reducible show WE _ _ (Expr.Tuple _ _ _) _ _ _); refine we_tup ?_)
  | ((with_reducible refine gECm ?_); walk_at "eWECompare")
  | ((with_reducible refine gEBi ?_); walk_at "eWEBinOp")
  | ((with_reducible show WE _ _ (Expr.UnaryOp _ _ _) _ _ _); walk_at "eWEUnaryOp")
  | ((with_reducible show WE _ _ (Expr.IfExp _ _ _ _) _ _ _); refine we_if ?_)
  | ((with_reducible refine gESu ?_); walk_at "eWESubscript")
  | ((with_reducible refine gEBo ?_); walk_at "eWEBoolOp")
  | ((with_reducible show WE _ _ (Expr.List [] _) _ _ (fun e M2 => REq _ _ _ _ _)); refine we_lst ?_))
  | `(tactic| walk_at "eWT") => `(tactic| first
  | ((with_reducible refine gTCm ?_); walk_at "eWTCompare")
  | ((with_reducible show WT _ _ (Expr.BoolOp _ _ _) _ _ _); refine ww_wt ?_)
  | ((with_reducible show WT _ _ (Expr.UnaryOp UnaryOp.Not _ _) _ _ _); refine wt_not ?_)
  | ((with_reducible show WT _ _ (Expr.Call _ _ _ _) _ _ _); refine wt_val ?_)
  | ((with_reducible show WT _ _ (Expr.Name _ _) _ _ _); refine wt_val ?_))
  | `(tactic| walk_at "e") => `(tactic| first
  | ((with_reducible show WE _ _ _ _ _ _); walk_at "eWE")
  | ((with_reducible show WA _ _ _ _ _ _); walk_at "eWA")
  | ((with_reducible show Exists _); walk_at "eEx")
  | ((with_reducible show WT _ _ _ _ _ _); walk_at "eWT")
  | ((with_reducible show REq _ _ _ _ _); walk_at "eREq")
  | ((with_reducible show if true = true then _ else _); refine iteT' ?_)
  | ((with_reducible show if false = true then _ else _); refine iteF' ?_)
  | ((with_reducible show WW _ _ _ _ _ _); walk_at "eWW")
  | ((with_reducible show RAdd _ _ _ _); walk_at "eRAdd")
  | ((with_reducible show _ ∧ _); walk_at "eAnd")
  | ((with_reducible show RIx _ _ _ _); walk_at "eRIx")
  | ((with_reducible show CL _ _ _); walk_at "cl")
  | ((with_reducible show _ ∨ _); walk_at "eOr")
  | ((with_reducible show WK _ _ _ _ _ _); walk_at "eWK")
  | ((with_reducible show WO _ _ _ _ _ _); walk_at "eWO")
  | ((with_reducible show RSl _ _ _ _ _); walk_at "eRSl")
  | ((with_reducible show onB _ (D.bl _) _); refine ⟨_, rfl, ?_⟩)
  | ((with_reducible show RLen _ _ _); walk_at "eRLen")
  | ((with_reducible show if isNonD _ = true then _ else _); first | refine iteP rfl ?_ | refine iteQ rfl ?_)
  | ((with_reducible show if (!isNonD _) = true then _ else _); first | refine iteP rfl ?_ | refine iteQ rfl ?_)
  | ((with_reducible show if _ = true then _ else _); first | refine iteP (by decide) ?_ | refine iteQ (by decide) ?_))
  | `(tactic| walk_at "sB") => `(tactic| first
  | ((with_reducible show WB _ _ [_] _ _ _); refine wb_one ?_)
  | ((with_reducible show WB _ _ (_ :: _) _ _ _); refine wb_cons ?_)
  | ((with_reducible show WB _ _ [] _ _ _); refine wb_nil ?_))
  | `(tactic| walk_at "sS") => `(tactic| first
  | ((with_reducible show WS _ _ (Stmt.Assign _ _ _) _ _ _); first
     | ((with_reducible show WS _ _ (Stmt.Assign [Expr.Subscript _ _ _] _ _) _ _ _); refine ws_asg ?_)
     | walk_at "t")
  | ((with_reducible show WS _ _ (Stmt.If _ _ _ _) _ _ _); refine ws_if ?_)
  | ((with_reducible show WS _ _ (Stmt.Return _ _) _ _ _); first
     | ((with_reducible show WS _ _ (Stmt.Return (some _) _) _ _ _); refine ws_ret ?_)
     | ((with_reducible show WS _ _ (Stmt.Return none _) _ _ _); refine ws_retN ?_))
  | ((with_reducible show WS _ _ (Stmt.Expr _ _) _ _ _); refine ws_expr ?_)
  | walk_at "t")
  | `(tactic| walk_at "sG") => `(tactic| first
  | ((with_reducible show WG _ _ (Expr.Tuple _ _ _) (D.tup _) _ _ _); refine wg_tup (by assumption) rfl ?_)
  | ((with_reducible show WG _ _ (Expr.Subscript _ _ _) _ _ _ _); refine wg_sub ?_)
  | walk_at "t")
  | `(tactic| walk_at "s") => `(tactic| first
  | ((with_reducible show WB _ _ _ _ _ _); walk_at "sB")
  | ((with_reducible show WS _ _ _ _ _ _); walk_at "sS")
  | ((with_reducible show WG _ _ _ _ _ _ _); walk_at "sG")
  | ((with_reducible show WGs _ _ [] [] _ _ _); refine wgs_nil ?_)
  | ((with_reducible show WGs _ _ (_ :: _) (_ :: _) _ _ _); refine wgs_cons ?_))
  | `(tactic| walk_at "g") => `(tactic| repeat (first
  | ((with_reducible show WB _ _ _ _ _ _); walk_at "s")
  | ((with_reducible show WS _ _ _ _ _ _); walk_at "s")
  | walk_at "e"
  | walk_at "s"))
/-! BooksA -/
def top (i : Nat) : Stmt := PySem.Challenge.pw_keeprests_k26_formulas_through_values.main.body.getD i (.Pass ⟨0, 0, 0, 0⟩)
abbrev st_Unfit___init__ : Stmt := inClass (top 7) 0
def N_Unfit___init__ : List Str := ["self", "first", "second"]
theorem sc_Unfit___init__ : FnScope N_Unfit___init__ ["self", "first", "second"] (defScope st_Unfit___init__) := ⟨rfl, rfl, rfl, by decide +kernel, rfl, by decide +kernel, by decide +kernel⟩
abbrev st_is_integer : Stmt := top 11
def N_is_integer : List Str := ["thing"]
theorem sc_is_integer : FnScope N_is_integer ["thing"] (defScope st_is_integer) := ⟨rfl, rfl, rfl, by decide +kernel, rfl, by decide +kernel, by decide +kernel⟩
abbrev st_is_told : Stmt := top 12
def N_is_told : List Str := ["thing"]
theorem sc_is_told : FnScope N_is_told ["thing"] (defScope st_is_told) := ⟨rfl, rfl, rfl, by decide +kernel, rfl, by decide +kernel, by decide +kernel⟩
abbrev st_is_item : Stmt := top 13
def N_is_item : List Str := ["thing"]
theorem sc_is_item : FnScope N_is_item ["thing"] (defScope st_is_item) := ⟨rfl, rfl, rfl, by decide +kernel, rfl, by decide +kernel, by decide +kernel⟩
abbrev st_is_book : Stmt := top 14
def N_is_book : List Str := ["thing", "one", "other", "item"]
theorem sc_is_book : FnScope N_is_book ["thing"] (defScope st_is_book) := ⟨rfl, rfl, rfl, by decide +kernel, rfl, by decide +kernel, by decide +kernel⟩
abbrev st_need_book : Stmt := top 15
def N_need_book : List Str := ["book"]
theorem sc_need_book : FnScope N_need_book ["book"] (defScope st_need_book) := ⟨rfl, rfl, rfl, by decide +kernel, rfl, by decide +kernel, by decide +kernel⟩
abbrev st_divisor_of : Stmt := top 16
def N_divisor_of : List Str := ["one", "other"]
theorem sc_divisor_of : FnScope N_divisor_of ["one", "other"] (defScope st_divisor_of) := ⟨rfl, rfl, rfl, by decide +kernel, rfl, by decide +kernel, by decide +kernel⟩
abbrev st_multiple_of : Stmt := top 17
def N_multiple_of : List Str := ["numbers", "found", "number"]
theorem sc_multiple_of : FnScope N_multiple_of ["numbers"] (defScope st_multiple_of) := ⟨rfl, rfl, rfl, by decide +kernel, rfl, by decide +kernel, by decide +kernel⟩
abbrev st_divides : Stmt := top 18
def N_divides : List Str := ["number", "other"]
theorem sc_divides : FnScope N_divides ["number", "other"] (defScope st_divides) := ⟨rfl, rfl, rfl, by decide +kernel, rfl, by decide +kernel, by decide +kernel⟩
abbrev st_do_fit : Stmt := top 19
def N_do_fit : List Str := ["one", "other"]
theorem sc_do_fit : FnScope N_do_fit ["one", "other"] (defScope st_do_fit) := ⟨rfl, rfl, rfl, by decide +kernel, rfl, by decide +kernel, by decide +kernel⟩
abbrev st_conflicts_in : Stmt := top 20
def N_conflicts_in : List Str := ["book", "found", "first", "one", "second"]
theorem sc_conflicts_in : FnScope N_conflicts_in ["book"] (defScope st_conflicts_in) := ⟨rfl, rfl, rfl, by decide +kernel, rfl, by decide +kernel, by decide +kernel⟩
abbrev st_conflict_in : Stmt := top 21
def N_conflict_in : List Str := ["book", "found"]
theorem sc_conflict_in : FnScope N_conflict_in ["book"] (defScope st_conflict_in) := ⟨rfl, rfl, rfl, by decide +kernel, rfl, by decide +kernel, by decide +kernel⟩
abbrev st_need_fitting : Stmt := top 22
def N_need_fitting : List Str := ["book", "conflict"]
theorem sc_need_fitting : FnScope N_need_fitting ["book"] (defScope st_need_fitting) := ⟨rfl, rfl, rfl, by decide +kernel, rfl, by decide +kernel, by decide +kernel⟩
abbrev st_need_possible : Stmt := top 23
def N_need_possible : List Str := ["book"]
theorem sc_need_possible : FnScope N_need_possible ["book"] (defScope st_need_possible) := ⟨rfl, rfl, rfl, by decide +kernel, rfl, by decide +kernel, by decide +kernel⟩
abbrev st_inverse_of : Stmt := top 25
def N_inverse_of : List Str := ["number", "modulus", "one", "other", "factor", "former", "share"]
theorem sc_inverse_of : FnScope N_inverse_of ["number", "modulus"] (defScope st_inverse_of) := ⟨rfl, rfl, rfl, by decide +kernel, rfl, by decide +kernel, by decide +kernel⟩
abbrev st_met : Stmt := top 26
def N_met : List Str := ["one", "other", "divisor", "part", "rounds"]
theorem sc_met : FnScope N_met ["one", "other"] (defScope st_met) := ⟨rfl, rfl, rfl, by decide +kernel, rfl, by decide +kernel, by decide +kernel⟩
abbrev st_class_by : Stmt := top 27
def N_class_by : List Str := ["items", "place", "found", "told", "value", "far"]
theorem sc_class_by : FnScope N_class_by ["items", "place"] (defScope st_class_by) := ⟨rfl, rfl, rfl, by decide +kernel, rfl, by decide +kernel, by decide +kernel⟩
abbrev st_first_from : Stmt := top 28
def N_first_from : List Str := ["own_class", "value", "rest", "modulus"]
theorem sc_first_from : FnScope N_first_from ["own_class", "value"] (defScope st_first_from) := ⟨rfl, rfl, rfl, by decide +kernel, rfl, by decide +kernel, by decide +kernel⟩
abbrev st_is_stretch : Stmt := top 31
def N_is_stretch : List Str := ["thing", "most", "value"]
theorem sc_is_stretch : FnScope N_is_stretch ["thing", "most"] (defScope st_is_stretch) := ⟨rfl, rfl, rfl, by decide +kernel, rfl, by decide +kernel, by decide +kernel⟩
abbrev st_need_stretch : Stmt := top 32
def N_need_stretch : List Str := ["stretch", "most"]
theorem sc_need_stretch : FnScope N_need_stretch ["stretch", "most"] (defScope st_need_stretch) := ⟨rfl, rfl, rfl, by decide +kernel, rfl, by decide +kernel, by decide +kernel⟩
abbrev st_items_in : Stmt := top 33
def N_items_in : List Str := ["stretch"]
theorem sc_items_in : FnScope N_items_in ["stretch"] (defScope st_items_in) := ⟨rfl, rfl, rfl, by decide +kernel, rfl, by decide +kernel, by decide +kernel⟩
abbrev st_need_right : Stmt := top 34
def N_need_right : List Str := ["stretch", "conflict"]
theorem sc_need_right : FnScope N_need_right ["stretch"] (defScope st_need_right) := ⟨rfl, rfl, rfl, by decide +kernel, rfl, by decide +kernel, by decide +kernel⟩
abbrev st_differences_in : Stmt := top 35
def N_differences_in : List Str := ["stretch", "found", "row", "value", "later"]
theorem sc_differences_in : FnScope N_differences_in ["stretch"] (defScope st_differences_in) := ⟨rfl, rfl, rfl, by decide +kernel, rfl, by decide +kernel, by decide +kernel⟩
abbrev st_is_formula : Stmt := top 40
def N_is_formula : List Str := ["thing", "item"]
theorem sc_is_formula : FnScope N_is_formula ["thing"] (defScope st_is_formula) := ⟨rfl, rfl, rfl, by decide +kernel, rfl, by decide +kernel, by decide +kernel⟩
abbrev st_need_formula : Stmt := top 41
def N_need_formula : List Str := ["formula"]
theorem sc_need_formula : FnScope N_need_formula ["formula"] (defScope st_need_formula) := ⟨rfl, rfl, rfl, by decide +kernel, rfl, by decide +kernel, by decide +kernel⟩
abbrev st_multiple_to : Stmt := top 42
def N_multiple_to : List Str := ["number"]
theorem sc_multiple_to : FnScope N_multiple_to ["number"] (defScope st_multiple_to) := ⟨rfl, rfl, rfl, by decide +kernel, rfl, by decide +kernel, by decide +kernel⟩
abbrev st_plain_of : Stmt := top 43
def N_plain_of : List Str := ["formula", "size"]
theorem sc_plain_of : FnScope N_plain_of ["formula"] (defScope st_plain_of) := ⟨rfl, rfl, rfl, by decide +kernel, rfl, by decide +kernel, by decide +kernel⟩
abbrev st_value_in : Stmt := top 44
def N_value_in : List Str := ["formula", "place", "found", "chosen", "common", "number", "item"]
theorem sc_value_in : FnScope N_value_in ["formula", "place"] (defScope st_value_in) := ⟨rfl, rfl, rfl, by decide +kernel, rfl, by decide +kernel, by decide +kernel⟩
abbrev st_values_in : Stmt := top 45
def N_values_in : List Str := ["formula", "place", "many", "step"]
theorem sc_values_in : FnScope N_values_in ["formula", "place", "many"] (defScope st_values_in) := ⟨rfl, rfl, rfl, by decide +kernel, rfl, by decide +kernel, by decide +kernel⟩
abbrev st_formula_by : Stmt := top 46
def N_formula_by : List Str := ["values", "number", "value"]
theorem sc_formula_by : FnScope N_formula_by ["values"] (defScope st_formula_by) := ⟨rfl, rfl, rfl, by decide +kernel, rfl, by decide +kernel, by decide +kernel⟩
abbrev st_moved_in : Stmt := top 47
def N_moved_in : List Str := ["formula", "steps"]
theorem sc_moved_in : FnScope N_moved_in ["formula", "steps"] (defScope st_moved_in) := ⟨rfl, rfl, rfl, by decide +kernel, rfl, by decide +kernel, by decide +kernel⟩
abbrev st_values_of : Stmt := top 48
def N_values_of : List Str := ["formula", "place", "many"]
theorem sc_values_of : FnScope N_values_of ["formula", "place", "many"] (defScope st_values_of) := ⟨rfl, rfl, rfl, by decide +kernel, rfl, by decide +kernel, by decide +kernel⟩
abbrev st_formula_from : Stmt := top 49
def N_formula_from : List Str := ["stretch"]
theorem sc_formula_from : FnScope N_formula_from ["stretch"] (defScope st_formula_from) := ⟨rfl, rfl, rfl, by decide +kernel, rfl, by decide +kernel, by decide +kernel⟩
abbrev st_formula_for : Stmt := top 50
def N_formula_for : List Str := ["book", "first", "last", "found", "place"]
theorem sc_formula_for : FnScope N_formula_for ["book"] (defScope st_formula_for) := ⟨rfl, rfl, rfl, by decide +kernel, rfl, by decide +kernel, by decide +kernel⟩
abbrev st_lies_on : Stmt := top 51
def N_lies_on : List Str := ["book", "formula", "place", "value"]
theorem sc_lies_on : FnScope N_lies_on ["book", "formula"] (defScope st_lies_on) := ⟨rfl, rfl, rfl, by decide +kernel, rfl, by decide +kernel, by decide +kernel⟩
abbrev st_l_store : Stmt := top 53
def N_l_store : List Str := ["_law_script", "_law_k", "_law_cell"]
theorem sc_l_store : FnScope N_l_store ["_law_script", "_law_k"] (defScope st_l_store) := ⟨rfl, rfl, rfl, by decide +kernel, rfl, by decide +kernel, by decide +kernel⟩
abbrev st_l_pick : Stmt := top 54
def N_l_pick : List Str := ["_law_store_here", "_law_bound", "_law_digit", "_law_mixed"]
theorem sc_l_pick : FnScope N_l_pick ["_law_store_here", "_law_bound"] (defScope st_l_pick) := ⟨rfl, rfl, rfl, by decide +kernel, rfl, by decide +kernel, by decide +kernel⟩
abbrev st_l_common : Stmt := top 55
def N_l_common : List Str := ["_law_upto", "_law_found", "_law_number_here", "_law_one", "_law_two"]
theorem sc_l_common : FnScope N_l_common ["_law_upto"] (defScope st_l_common) := ⟨rfl, rfl, rfl, by decide +kernel, rfl, by decide +kernel, by decide +kernel⟩
abbrev st_l_chosen : Stmt := top 56
def N_l_chosen : List Str := ["_law_spot_here", "_law_upto", "_law_top", "_law_bottom", "_law_turn"]
theorem sc_l_chosen : FnScope N_l_chosen ["_law_spot_here", "_law_upto"] (defScope st_l_chosen) := ⟨rfl, rfl, rfl, by decide +kernel, rfl, by decide +kernel, by decide +kernel⟩
abbrev st_l_value : Stmt := top 57
def N_l_value : List Str := ["_law_row_here", "_law_spot_here", "_law_k", "_law_item"]
theorem sc_l_value : FnScope N_l_value ["_law_row_here", "_law_spot_here"] (defScope st_l_value) := ⟨rfl, rfl, rfl, by decide +kernel, rfl, by decide +kernel, by decide +kernel⟩
abbrev st_l_row : Stmt := top 58
def N_l_row : List Str := ["_law_store_here", "_law_most", "_law_size_here", "_law_bent", "_law_wide", "_law_found", "_law_turn", "_law_item"]
theorem sc_l_row : FnScope N_l_row ["_law_store_here", "_law_most"] (defScope st_l_row) := ⟨rfl, rfl, rfl, by decide +kernel, rfl, by decide +kernel, by decide +kernel⟩
abbrev st_l_bare : Stmt := top 59
def N_l_bare : List Str := ["_law_row_here", "_law_found"]
theorem sc_l_bare : FnScope N_l_bare ["_law_row_here"] (defScope st_l_bare) := ⟨rfl, rfl, rfl, by decide +kernel, rfl, by decide +kernel, by decide +kernel⟩
abbrev st_l_spot : Stmt := top 60
def N_l_spot : List Str := ["_law_store_here", "_law_wide"]
theorem sc_l_spot : FnScope N_l_spot ["_law_store_here"] (defScope st_l_spot) := ⟨rfl, rfl, rfl, by decide +kernel, rfl, by decide +kernel, by decide +kernel⟩
abbrev st_l_made : Stmt := top 61
def N_l_made : List Str := ["_law_values_here", "_law_found", "_law_row_here", "_law_here", "_law_later"]
theorem sc_l_made : FnScope N_l_made ["_law_values_here"] (defScope st_l_made) := ⟨rfl, rfl, rfl, by decide +kernel, rfl, by decide +kernel, by decide +kernel⟩
abbrev st_l_modest : Stmt := top 62
def N_l_modest : List Str := ["_law_store_here", "_law_most", "_law_wide", "_law_found", "_law_turn"]
theorem sc_l_modest : FnScope N_l_modest ["_law_store_here", "_law_most"] (defScope st_l_modest) := ⟨rfl, rfl, rfl, by decide +kernel, rfl, by decide +kernel, by decide +kernel⟩
abbrev st_l_from_right : Stmt := top 63
def N_l_from_right : List Str := ["_law_store_here", "_law_many", "_law_row_here", "_law_values_here", "_law_kept", "_law_due", "_law_told", "_law_turn", "_law_spot_here"]
theorem sc_l_from_right : FnScope N_l_from_right ["_law_store_here", "_law_many"] (defScope st_l_from_right) := ⟨rfl, rfl, rfl, by decide +kernel, rfl, by decide +kernel, by decide +kernel⟩
abbrev st_l_book : Stmt := top 64
def N_l_book : List Str := ["_law_store_here", "_law_most", "_law_begin", "_law_many", "_law_row_here", "_law_found", "_law_turn", "_law_spot_here", "_law_place_here", "_law_value_here"]
theorem sc_l_book : FnScope N_l_book ["_law_store_here", "_law_most"] (defScope st_l_book) := ⟨rfl, rfl, rfl, by decide +kernel, rfl, by decide +kernel, by decide +kernel⟩
abbrev st_l_for_right : Stmt := top 65
def N_l_for_right : List Str := ["_law_store_here", "_law_deal", "_law_kept", "_law_told", "_law_again", "_law_spot_here", "_law_other", "_law_value_here"]
theorem sc_l_for_right : FnScope N_l_for_right ["_law_store_here"] (defScope st_l_for_right) := ⟨rfl, rfl, rfl, by decide +kernel, rfl, by decide +kernel, by decide +kernel⟩
abbrev st_law : Stmt := top 66
def N_law : List Str := ["_law_script", "_law_k", "_law_store_here", "_law_many", "_law_turn", "_law_wide", "_law_told"]
theorem sc_law : FnScope N_law ["_law_script"] (defScope st_law) := ⟨rfl, rfl, rfl, by decide +kernel, rfl, by decide +kernel, by decide +kernel⟩
def TInt1 : TSp := fun ds M Q _ => ∃ i, ds = [.int i] ∧ Q (.bl true) M
theorem TInt1_mono : Mono TInt1 := fun ds M Q Q' E E' h _ ⟨i, h1, h2⟩ => ⟨i, h1, h _ _ h2⟩
theorem TInt1_len : ∀ ds M Q E, TInt1 ds M Q E → ds.length = 1 := fun ds M Q E h => by obtain ⟨_, rfl, _⟩ := h; rfl
def TTold : TSp := fun ds M Q _ => ∃ i, ds = [.int i] ∧ Small i ∧ Q (.bl true) M
theorem TTold_mono : Mono TTold := fun ds M Q Q' E E' h _ ⟨i, h1, h3, h2⟩ => ⟨i, h1, h3, h _ _ h2⟩
theorem TTold_len : ∀ ds M Q E, TTold ds M Q E → ds.length = 1 := fun ds M Q E h => by obtain ⟨_, rfl, _⟩ := h; rfl
def TIsItem : TSp := fun ds M Q _ => ∃ x, ds = [itemD x] ∧ Small x.1 ∧ Small x.2 ∧ Q (.bl true) M
theorem TIsItem_mono : Mono TIsItem := fun ds M Q Q' E E' h _ ⟨i, h1, h3, h4, h2⟩ => ⟨i, h1, h3, h4, h _ _ h2⟩
theorem TIsItem_len : ∀ ds M Q E, TIsItem ds M Q E → ds.length = 1 := fun ds M Q E h => by obtain ⟨_, rfl, _⟩ := h; rfl
def TIsBook : TSp := fun ds M Q _ => ∃ d xs, ds = [d] ∧ LV M d (bookD xs) ∧ BookOk xs ∧ Q (.bl true) M
theorem TIsBook_mono : Mono TIsBook := fun ds M Q Q' E E' h _ ⟨d, i, h1, h3, h4, h2⟩ => ⟨d, i, h1, h3, h4, h _ _ h2⟩
theorem TIsBook_len : ∀ ds M Q E, TIsBook ds M Q E → ds.length = 1 := fun ds M Q E h => by obtain ⟨_, _, rfl, _⟩ := h; rfl
def TNeedBook : TSp := fun ds M Q _ => ∃ d xs, ds = [d] ∧ LV M d (bookD xs) ∧ BookOk xs ∧ Q .non M
theorem TNeedBook_mono : Mono TNeedBook := fun ds M Q Q' E E' h _ ⟨d, i, h1, h3, h4, h2⟩ => ⟨d, i, h1, h3, h4, h _ _ h2⟩
theorem TNeedBook_len : ∀ ds M Q E, TNeedBook ds M Q E → ds.length = 1 := fun ds M Q E h => by obtain ⟨_, _, rfl, _⟩ := h; rfl
section
variable {P : Program} {w : World} {K : PySem.W.Frag} {mg : Str → Option Value} {base : Heap}
local macro_rules
  | `(tactic| walk_at "ok") => `(tactic| first
  | ((show BlkOk N_is_integer (defScope st_is_integer) _ _); exact blkOk_by (by decide +kernel)))
  | `(tactic| walk_at "eWECall") => `(tactic| first
  | ((with_reducible refine gC "isinstance" ?_); refine we_isi rfl (by assumption) ?_))
  | `(tactic| walk_at "n") => `(tactic| first
  | ((with_reducible refine gN "thing" ?_); refine we_nm 0 rfl rfl ?_)
  | ((with_reducible show WE _ _ (Expr.Name "int" _) _ _ _); refine we_bltn (v := .ty "int") rfl (by assumption) (by decide +kernel) rfl ?_)
  | ((with_reducible show WE _ _ (Expr.Name "bool" _) _ _ _); refine we_bltn (v := .ty "bool") rfl (by assumption) (by decide +kernel) rfl ?_))
  | `(tactic| walk_at "t") => `(tactic| first
  | ((with_reducible show WS _ _ (Stmt.Assign [Expr.Tuple _ _ _] _ _) _ _ _); refine ws_asg ?_))
theorem fn_is_integer {f : Addr} {fd : FuncData} (b_isi : mg "isinstance" = none) (b_int : mg "int" = none) (b_bool : mg "bool" = none) (Fn : L2.Fun K "is_integer" "is_integer" st_is_integer f fd) :
    FnOk P w K mg base (L2.CX P w) 1 f fd ["thing"] (spG K TInt1) := by
  refine fn_ok Fn sc_is_integer rfl TInt1_len ?_
  intro cdv A outer s H E N hr ds M Q X' h
  obtain ⟨i, rfl, q⟩ := h
  show WB _ _ _ [some _] _ _
  refine wb_one ?_
  walk_at "g"
  exact q
end
section
variable {P : Program} {w : World} {K : PySem.W.Frag} {mg : Str → Option Value} {base : Heap}
local macro_rules
  | `(tactic| walk_at "ok") => `(tactic| first
  | ((show BlkOk N_is_told (defScope st_is_told) _ _); exact blkOk_by (by decide +kernel)))
  | `(tactic| walk_at "eWECall") => `(tactic| first
  | ((with_reducible show WE _ _ (Expr.Call (Expr.Name _ _) _ _ _) _ _ _); walk_at "c"))
  | `(tactic| walk_at "n") => `(tactic| first
  | ((with_reducible refine gN "thing" ?_); refine we_nm 0 rfl rfl ?_)
  | ((with_reducible show WE _ _ (Expr.Name "MOST" _) _ _ _); refine we_globI rfl (by assumption) ?_))
  | `(tactic| walk_at "t") => `(tactic| first
  | ((with_reducible show WS _ _ (Stmt.Assign [Expr.Tuple _ _ _] _ _) _ _ _); refine ws_asg ?_))
  | `(tactic| walk_at "c") => `(tactic| first
  | ((with_reducible refine gCK "is_integer" ?_); refine we_cl "is_integer" ?_))
theorem fn_is_told {f : Addr} {fd : FuncData} (c1 : ∃ t, mg "MOST" = some (.int 1000000000000000000000000000000 t)) (d_int : FD P w K mg base 1 "is_integer" 1 TInt1) (Fn : L2.Fun K "is_told" "is_told" st_is_told f fd) :
    FnOk P w K mg base (L2.CX P w) 2 f fd ["thing"] (spG K TTold) := by
  refine fn_ok Fn sc_is_told rfl TTold_len ?_
  intro cdv A outer s H E N hr ds M Q X' h
  obtain ⟨i, rfl, hi, q⟩ := h
  have hi' : i.natAbs ≤ 10 ^ 30 := hi
  show WB _ _ _ [some _] _ _
  refine wb_one ?_
  walk_at "g"
  refine ⟨i, rfl, ?_⟩
  walk_at "g"
  refine iteP (decide_eq_true (by omega)) ?_
  walk_at "g"
  rw [decide_eq_true (show i ≤ 1000000000000000000000000000000 by omega)]
  exact q
end
section
variable {P : Program} {w : World} {K : PySem.W.Frag} {mg : Str → Option Value} {base : Heap}
local macro_rules
  | `(tactic| walk_at "ok") => `(tactic| first
  | ((show BlkOk N_is_item (defScope st_is_item) _ _); exact blkOk_by (by decide +kernel)))
  | `(tactic| walk_at "eWECall") => `(tactic| first
  | ((with_reducible refine gC "isinstance" ?_); refine we_isi rfl (by assumption) ?_)
  | ((with_reducible show WE _ _ (Expr.Call (Expr.Name _ _) _ _ _) _ _ _); walk_at "c")
  | ((with_reducible refine gC "len" ?_); refine we_len rfl (by assumption) ?_))
  | `(tactic| walk_at "n") => `(tactic| first
  | ((with_reducible refine gN "thing" ?_); refine we_nm 0 rfl rfl ?_)
  | ((with_reducible show WE _ _ (Expr.Name "tuple" _) _ _ _); refine we_bltn (v := .ty "tuple") rfl (by assumption) (by decide +kernel) rfl ?_))
  | `(tactic| walk_at "t") => `(tactic| first
  | ((with_reducible show WS _ _ (Stmt.Assign [Expr.Tuple _ _ _] _ _) _ _ _); refine ws_asg ?_))
  | `(tactic| walk_at "c") => `(tactic| first
  | ((with_reducible refine gCK "is_told" ?_); refine we_cl "is_told" ?_))
theorem fn_is_item {f : Addr} {fd : FuncData} (b_isi : mg "isinstance" = none) (b_len : mg "len" = none) (b_tuple : mg "tuple" = none) (d_told : FD P w K mg base 2 "is_told" 1 TTold) (Fn : L2.Fun K "is_item" "is_item" st_is_item f fd) :
    FnOk P w K mg base (L2.CX P w) 3 f fd ["thing"] (spG K TIsItem) := by
  refine fn_ok Fn sc_is_item rfl TIsItem_len ?_
  intro cdv A outer s H E N hr ds M Q X' h
  obtain ⟨x, rfl, h1, h2, q⟩ := h
  show WB _ _ _ [some (.tup [.int x.1, .int x.2])] _ _
  refine wb_one ?_
  walk_at "g"
  refine iteP (decide_eq_true rfl) ?_
  walk_at "g"
  refine ⟨x.1, rfl, h1, ?_⟩
  walk_at "g"
  refine ⟨x.2, rfl, h2, ?_⟩
  exact q
end
section
variable {P : Program} {w : World} {K : PySem.W.Frag} {mg : Str → Option Value} {base : Heap}
local macro_rules
  | `(tactic| walk_at "ok") => `(tactic| first
  | ((show BlkOk N_is_book (defScope st_is_book) _ _); exact blkOk_by (by decide +kernel)))
  | `(tactic| walk_at "tG") => `(tactic| first
  | ((with_reducible refine gG "one" ?_); refine wg_nm 1 ?_)
  | ((with_reducible refine gG "other" ?_); refine wg_nm 2 ?_)
  | ((with_reducible refine gG "item" ?_); refine wg_nm 3 ?_))
  | `(tactic| walk_at "eWECall") => `(tactic| first
  | ((with_reducible refine gC "all" ?_); refine we_all rfl rfl (by assumption) ?_)
  | ((with_reducible refine gC "isinstance" ?_); refine we_isi rfl (by assumption) ?_)
  | ((with_reducible refine gC "len" ?_); refine we_len rfl (by assumption) ?_)
  | ((with_reducible show WE _ _ (Expr.Call (Expr.Name _ _) _ _ _) _ _ _); walk_at "c"))
  | `(tactic| walk_at "n") => `(tactic| first
  | ((with_reducible refine gN "thing" ?_); refine we_nm 0 rfl rfl ?_)
  | ((with_reducible refine gN "one" ?_); refine we_nm 1 rfl rfl ?_)
  | ((with_reducible refine gN "other" ?_); refine we_nm 2 rfl rfl ?_)
  | ((with_reducible refine gN "item" ?_); refine we_nm 3 rfl rfl ?_)
  | ((with_reducible show WE _ _ (Expr.Name "MOST_ITEMS_books" _) _ _ _); refine we_globI rfl (by assumption) ?_)
  | ((with_reducible show WE _ _ (Expr.Name "list" _) _ _ _); refine we_bltn (v := .ty "list") rfl (by assumption) (by decide +kernel) rfl ?_))
  | `(tactic| walk_at "t") => `(tactic| first
  | ((with_reducible show WG _ _ (Expr.Name _ _) _ _ _ _); walk_at "tG")
  | ((with_reducible show WS _ _ (Stmt.Assign [Expr.Tuple _ _ _] _ _) _ _ _); refine ws_asg ?_))
  | `(tactic| walk_at "c") => `(tactic| first
  | ((with_reducible refine gCK "is_item" ?_); refine we_cl "is_item" ?_))
  | `(tactic| walk_at "tg") => `(tactic| first
  | exact Tg.two (i := 1) (j := 2) rfl rfl (by decide) rfl rfl
  | exact Tg.one (i := 3) rfl rfl)
theorem fn_is_book {f : Addr} {fd : FuncData} (b_isi : mg "isinstance" = none) (b_len : mg "len" = none) (b_list : mg "list" = none) (b_all : mg "all" = none) (b_zip : mg "zip" = none) (c1 : ∃ t, mg "MOST_ITEMS_books" = some (.int 24 t)) (d_item : FD P w K mg base 3 "is_item" 1 TIsItem) (Fn : L2.Fun K "is_book" "is_book" st_is_book f fd) :
    FnOk P w K mg base (L2.CX P w) 4 f fd ["thing"] (spG K TIsBook) := by
  refine fn_ok Fn sc_is_book rfl TIsBook_len ?_
  intro cdv A outer s H E N hr ds M Q X' h
  obtain ⟨d, xs, rfl, hl, hb, q⟩ := h
  show WB _ _ _ [some _, none, none, none] _ _
  refine wb_cons ?_
  walk_at "g"
  refine isi1 hl.ty (by decide) (b := true) (by decide) ?_
  walk_at "g"
  refine Sq.len (.inl ⟨rfl, hl⟩) ?_
  walk_at "g"
  refine iteQ (decide_eq_false (by unfold bookD; rw [List.length_map]; have := hb.1; omega)) ?_
  walk_at "g"
  refine we_froz 0 (we_lcM (fun _ => .bl true) N (by walk_at "tg") (by walk_at "ok") (wi_list ?_))
  walk_at "g"
  refine ⟨_, hl, ?_, fun _ _ => hl.cons, ?_, ?_⟩
  · unfold bookD; rw [List.length_map, sizeLine_eq]; have := hb.1; omega
  · intro j d' acc p hd
    obtain ⟨y, hy, rfl⟩ := List.mem_map.mp (List.mem_of_getElem? hd)
    refine ⟨_, rfl, fun B => ?_⟩
    walk_at "g"
    exact ⟨y, rfl, (hb.2.1 y hy).1, (hb.2.1 y hy).2, rfl, rfl⟩
  · intro p
    refine ⟨p, _, rfl, rfl, ?_⟩
    walk_at "g"
    refine ⟨_, List.replicate xs.length true, rfl, ?_, ?_⟩
    · rw [show (List.replicate xs.length true).map D.bl = (bookD xs).map fun _ => D.bl true by unfold bookD; rw [List.map_map, List.map_replicate]; exact (List.map_const' ..).symm]
      exact .l
    · rw [show (List.replicate xs.length true).all id = true by simp]
      walk_at "g"
      refine we_froz 0 (we_lcM (fun _ => .bl true) N (by walk_at "tg") (by walk_at "ok") (wi_zip rfl (by assumption) ?_))
      walk_at "g"
      refine .inl ⟨_, hl, ?_⟩
      rw [cutD_1]
      walk_at "g"
      refine ⟨_, _, bookD xs, (bookD xs).drop 1, rfl, hl, .l, ?_, fun _ _ => ⟨hl.cons, .l⟩, ?_, ?_⟩
      · rw [zipD_len]
        unfold bookD; rw [List.length_map, sizeLine_eq]; have := hb.1; omega
      · intro j d' acc p' hd
        obtain ⟨u, v, hu, hv, rfl⟩ := zipD_inv hd
        unfold bookD at hu hv
        rw [List.getElem?_drop, List.getElem?_map] at hv
        rw [List.getElem?_map] at hu
        cases e1 : xs[j]? with
        | none => rw [e1] at hu; cases hu
        | some y =>
          cases e2 : xs[1 + j]? with
          | none => rw [e2] at hv; cases hv
          | some z =>
            obtain rfl : u = .tup [.int y.1, .int y.2] := by rw [e1] at hu; exact (Option.some.inj hu).symm
            obtain rfl : v = .tup [.int z.1, .int z.2] := by rw [e2] at hv; exact (Option.some.inj hv).symm
            have hlt : y.1 < z.1 := by
              obtain ⟨h1, h1'⟩ := List.getElem?_eq_some_iff.mp e1
              obtain ⟨h2, h2'⟩ := List.getElem?_eq_some_iff.mp e2
              have := List.pairwise_iff_getElem.mp hb.2.2 j (1 + j) (by simpa using h1) (by simpa using h2) (by omega)
              simpa [h1', h2'] using this
            refine ⟨_, ⟨_, _, rfl, rfl⟩, fun B => ?_⟩
            walk_at "g"
            all_goals first | rfl | rw [decide_eq_true hlt]
      · intro p'
        refine ⟨p', _, rfl, rfl, ?_⟩
        walk_at "g"
        obtain ⟨bs, e1, e2⟩ := all_true (zipD (bookD xs) ((bookD xs).drop 1))
        refine ⟨_, bs, rfl, by rw [e1]; exact .l, ?_⟩
        rw [e2]
        exact q
end
def TDivs : TSp := fun ds M Q _ => ∃ a b : Int, ds = [.int a, .int b] ∧ Q (.bl (decide (a ∣ b))) M
theorem TDivs_mono : Mono TDivs := fun ds M Q Q' E E' h _ ⟨a, b, h1, h2⟩ => ⟨a, b, h1, h _ _ h2⟩
theorem TDivs_len : ∀ ds M Q E, TDivs ds M Q E → ds.length = 2 := fun ds M Q E h => by obtain ⟨_, _, rfl, _⟩ := h; rfl
section
variable {P : Program} {w : World} {K : PySem.W.Frag} {mg : Str → Option Value} {base : Heap}
local macro_rules
  | `(tactic| walk_at "ok") => `(tactic| first
  | ((show BlkOk N_need_book (defScope st_need_book) _ _); exact blkOk_by (by decide +kernel)))
  | `(tactic| walk_at "eWECall") => `(tactic| first
  | ((with_reducible show WE _ _ (Expr.Call (Expr.Name _ _) _ _ _) _ _ _); walk_at "c"))
  | `(tactic| walk_at "n") => `(tactic| first
  | ((with_reducible refine gN "book" ?_); refine we_nm 0 rfl rfl ?_))
  | `(tactic| walk_at "t") => `(tactic| first
  | ((with_reducible show WS _ _ (Stmt.Assign [Expr.Tuple _ _ _] _ _) _ _ _); refine ws_asg ?_))
  | `(tactic| walk_at "c") => `(tactic| first
  | ((with_reducible refine gCK "is_book" ?_); refine we_cl "is_book" ?_))
theorem fn_need_book {f : Addr} {fd : FuncData} (d_book : FD P w K mg base 4 "is_book" 1 TIsBook) (Fn : L2.Fun K "need_book" "need_book" st_need_book f fd) :
    FnOk P w K mg base (L2.CX P w) 5 f fd ["book"] (spG K TNeedBook) := by
  refine fn_ok Fn sc_need_book rfl TNeedBook_len ?_
  intro cdv A outer s H E N hr ds M Q X' h
  obtain ⟨d, xs, rfl, hl, hb, q⟩ := h
  show WB _ _ _ [some _] _ _
  refine wb_one ?_
  walk_at "g"
  refine ⟨_, xs, rfl, hl, hb, ?_⟩
  walk_at "g"
  exact q
end
section
variable {P : Program} {w : World} {K : PySem.W.Frag} {mg : Str → Option Value} {base : Heap}
local macro_rules
  | `(tactic| walk_at "ok") => `(tactic| first
  | ((show BlkOk N_divides (defScope st_divides) _ _); exact blkOk_by (by decide +kernel)))
  | `(tactic| walk_at "n") => `(tactic| first
  | ((with_reducible refine gN "number" ?_); refine we_nm 0 rfl rfl ?_)
  | ((with_reducible refine gN "other" ?_); refine we_nm 1 rfl rfl ?_))
  | `(tactic| walk_at "t") => `(tactic| first
  | ((with_reducible show WS _ _ (Stmt.Assign [Expr.Tuple _ _ _] _ _) _ _ _); refine ws_asg ?_))
theorem fn_divides {f : Addr} {fd : FuncData} (Fn : L2.Fun K "divides" "divides" st_divides f fd) :
    FnOk P w K mg base (L2.CX P w) 1 f fd ["number", "other"] (spG K TDivs) := by
  refine fn_ok Fn sc_divides rfl TDivs_len ?_
  intro cdv A outer s H E N hr ds M Q X' h
  obtain ⟨a, b, rfl, q⟩ := h
  show WB _ _ _ [some _, some _] _ _
  refine wb_one ?_
  walk_at "g"
  refine iteD (fun h0 => ?_) (fun h0 => ?_)
  · subst h0
    walk_at "g"
    rw [show decide ((0 : Int) ∣ b) = decide (b = 0) from by simp [Int.zero_dvd]] at q
    exact q
  · refine we_eq (by walk_at "u") (we_modN ?_)
    walk_at "g"
    rw [show decide (a ∣ b) = decide (b.fmod a = 0) from by
      by_cases h : a ∣ b
      · rw [decide_eq_true h, decide_eq_true (Int.fmod_eq_zero_of_dvd h)]
      · rw [decide_eq_false h, decide_eq_false fun z => h (Int.dvd_of_fmod_eq_zero z)]] at q
    all_goals first | exact q | exact h0
end
/-- two items fit -/
def Fit (x y : Int × Int) : Prop := (x.1 - y.1) ∣ (x.2 - y.2)
instance (x y : Int × Int) : Decidable (Fit x y) := inferInstanceAs (Decidable (_ ∣ _))
def TFit : TSp := fun ds M Q _ => ∃ x y, ds = [itemD x, itemD y] ∧ Q (.bl (decide (Fit x y))) M
theorem TFit_mono : Mono TFit := fun ds M Q Q' E E' h _ ⟨a, b, h1, h2⟩ => ⟨a, b, h1, h _ _ h2⟩
theorem TFit_len : ∀ ds M Q E, TFit ds M Q E → ds.length = 2 := fun ds M Q E h => by obtain ⟨_, _, rfl, _⟩ := h; rfl
/-- a book all of whose items fit -/
def PossOk (xs : List (Int × Int)) : Prop := BookOk xs ∧ ∀ x ∈ xs, ∀ y ∈ xs, Fit x y
def TConf0 : TSp := fun ds M Q _ => ∃ d xs, ds = [d] ∧ LV M d (bookD xs) ∧ PossOk xs ∧ ∀ p rest, Q (.cel p) (rest ++ (p, .lst []) :: M)
theorem TConf0_mono : Mono TConf0 := fun ds M Q Q' E E' h _ ⟨a, b, h1, h2, h3, h4⟩ => ⟨a, b, h1, h2, h3, fun p r => h _ _ (h4 p r)⟩
theorem TConf0_len : ∀ ds M Q E, TConf0 ds M Q E → ds.length = 1 := fun ds M Q E h => by obtain ⟨_, _, rfl, _⟩ := h; rfl
section
variable {P : Program} {w : World} {K : PySem.W.Frag} {mg : Str → Option Value} {base : Heap}
local macro_rules
  | `(tactic| walk_at "ok") => `(tactic| first
  | ((show BlkOk N_do_fit (defScope st_do_fit) _ _); exact blkOk_by (by decide +kernel)))
  | `(tactic| walk_at "eWECall") => `(tactic| first
  | ((with_reducible show WE _ _ (Expr.Call (Expr.Name _ _) _ _ _) _ _ _); walk_at "c"))
  | `(tactic| walk_at "n") => `(tactic| first
  | ((with_reducible refine gN "one" ?_); refine we_nm 0 rfl rfl ?_)
  | ((with_reducible refine gN "other" ?_); refine we_nm 1 rfl rfl ?_))
  | `(tactic| walk_at "t") => `(tactic| first
  | ((with_reducible show WS _ _ (Stmt.Assign [Expr.Tuple _ _ _] _ _) _ _ _); refine ws_asg ?_))
  | `(tactic| walk_at "c") => `(tactic| first
  | ((with_reducible refine gCK "divides" ?_); refine we_cl "divides" ?_))
theorem fn_do_fit {f : Addr} {fd : FuncData} (d_div : FD P w K mg base 1 "divides" 2 TDivs) (Fn : L2.Fun K "do_fit" "do_fit" st_do_fit f fd) :
    FnOk P w K mg base (L2.CX P w) 2 f fd ["one", "other"] (spG K TFit) := by
  refine fn_ok Fn sc_do_fit rfl TFit_len ?_
  intro cdv A outer s H E N hr ds M Q X' h
  obtain ⟨x, y, rfl, q⟩ := h
  show WB _ _ _ [some (.tup [.int x.1, .int x.2]), some (.tup [.int y.1, .int y.2])] _ _
  refine wb_one ?_
  walk_at "g"
  exact ⟨_, _, rfl, q⟩
end
section
variable {P : Program} {w : World} {K : PySem.W.Frag} {mg : Str → Option Value} {base : Heap}
local macro_rules
  | `(tactic| walk_at "ok") => `(tactic| first
  | ((show BlkOk N_conflicts_in (defScope st_conflicts_in) _ _); exact blkOk_by (by decide +kernel)))
  | `(tactic| walk_at "tS") => `(tactic| first
  | ((with_reducible refine gS "found" ?_); refine ws_st 1 ?_))
  | `(tactic| walk_at "tG") => `(tactic| first
  | ((with_reducible refine gG "first" ?_); refine wg_nm 2 ?_)
  | ((with_reducible refine gG "one" ?_); refine wg_nm 3 ?_)
  | ((with_reducible refine gG "second" ?_); refine wg_nm 4 ?_))
  | `(tactic| walk_at "eWECall") => `(tactic| first
  | ((with_reducible refine gC "len" ?_); refine we_len rfl (by assumption) ?_)
  | ((with_reducible show WE _ _ (Expr.Call (Expr.Name _ _) _ _ _) _ _ _); walk_at "c"))
  | `(tactic| walk_at "n") => `(tactic| first
  | ((with_reducible refine gN "book" ?_); refine we_nm 0 rfl rfl ?_)
  | ((with_reducible refine gN "found" ?_); refine we_nm 1 rfl rfl ?_)
  | ((with_reducible refine gN "first" ?_); refine we_nm 2 rfl rfl ?_)
  | ((with_reducible refine gN "second" ?_); refine we_nm 4 rfl rfl ?_)
  | ((with_reducible refine gN "one" ?_); refine we_nm 3 rfl rfl ?_))
  | `(tactic| walk_at "t") => `(tactic| first
  | ((with_reducible show WS _ _ (Stmt.Assign [Expr.Name _ _] _ _) _ _ _); walk_at "tS")
  | ((with_reducible show WG _ _ (Expr.Name _ _) _ _ _ _); walk_at "tG")
  | ((with_reducible show WS _ _ (Stmt.Assign [Expr.Tuple _ _ _] _ _) _ _ _); refine ws_asg ?_))
  | `(tactic| walk_at "c") => `(tactic| first
  | ((with_reducible refine gCK "do_fit" ?_); refine we_cl "do_fit" ?_))
  | `(tactic| walk_at "tg") => `(tactic| first
  | exact Tg.one (i := 4) rfl rfl)
theorem fn_conflicts_in {f : Addr} {fd : FuncData} (b_enum : mg "enumerate" = none) (b_range : mg "range" = none) (b_len : mg "len" = none) (d_fit : FD P w K mg base 2 "do_fit" 2 TFit) (Fn : L2.Fun K "conflicts_in" "conflicts_in" st_conflicts_in f fd) :
    FnOk P w K mg base (L2.CX P w) 3 f fd ["book"] (spG K TConf0) := by
  refine fn_ok Fn sc_conflicts_in rfl TConf0_len ?_
  intro cdv A outer s H E N hr ds M Q X' h
  obtain ⟨d, xs, rfl, hl, hb, q⟩ := h
  show WB _ _ _ [some _, none, none, none, none] _ _
  refine wb_cons ?_
  walk_at "t"
  refine we_lstC ?_
  walk_at "g"
  intro p
  walk_at "g"
  refine ws_for N (wi_enum rfl (by assumption) ?_)
  walk_at "g"
  refine ⟨_, bookD xs, rfl, hl.cons, fun j δ' M' => ∃ (x2 x3 x4 : Option D) (rest : Cells), δ' = [some d, some (.cel p), x2, x3, x4] ∧ M' = rest ++ (p, .lst []) :: M, ?_, ?_, ?_, ?_⟩
  · exact ⟨none, none, none, [], rfl, rfl⟩
  · rintro j δ' M' _ ⟨x2, x3, x4, rest, rfl, rfl⟩
    exact hl.cons.app rest
  · rintro j d' δ' M' hd ⟨x2, x3, x4, rest, rfl, rfl⟩
    obtain ⟨u, hu, rfl⟩ := enumD_inv hd
    unfold bookD at hu
    rw [List.getElem?_map] at hu
    cases e1 : xs[j]? with
    | none => rw [e1] at hu; cases hu
    | some x =>
      obtain rfl : u = itemD x := by rw [e1] at hu; exact (Option.some.inj hu).symm
      have hx := List.mem_of_getElem? e1
      have hlen := hb.1.1
      have hbl : (bookD xs).length = xs.length := by unfold bookD; rw [List.length_map]
      walk_at "s"
      walk_at "s"
      walk_at "t"
      walk_at "s"
      walk_at "t"
      walk_at "s"
      refine wb_drop (List.sublist_append_right _ _) ?_
      walk_at "g"
      refine we_extend ?_
      walk_at "g"
      refine we_lcF (fun _ => false) id N (by walk_at "tg") (by walk_at "ok") (wi_range2 rfl (by assumption) ?_)
      walk_at "g"
      refine Sq.len (.inl ⟨rfl, hl.cons⟩) ?_
      walk_at "g"
      have hj := (List.getElem?_eq_some_iff.mp e1).1
      refine ⟨_, _, rfl, ⟨by omega, by omega, by omega, by omega⟩, ?_, fun _ _ => trivial, ?_, ?_⟩
      · rw [rangeD_len, hbl, sizeLine_eq]; omega
      · intro i d2 acc p' hd2
        obtain ⟨hi, rfl⟩ := rangeD_inv hd2
        rw [hbl] at hi
        have hi2 : j + 1 + i < xs.length := by omega
        have ey : (bookD xs)[j + 1 + i]? = some (itemD xs[j + 1 + i]) := by unfold bookD; rw [List.getElem?_map, List.getElem?_eq_getElem hi2]; rfl
        refine ⟨_, rfl, fun B => ?_⟩
        walk_at "g"
        refine Sq.ix (.inl ⟨rfl, hl.cons.cons⟩) (z := itemD xs[j + 1 + i]) (by rw [show (j : Int) + 1 + (i : Nat) = ((j + 1 + i : Nat) : Int) by omega]; exact atI_nat ey) ?_
        walk_at "g"
        refine ⟨x, xs[j + 1 + i], rfl, ?_⟩
        rw [decide_eq_true (hb.2 x hx _ (List.getElem_mem hi2))]
        walk_at "g"
        all_goals first | rfl | exact ⟨rfl, rfl, fun z => absurd z (by decide)⟩ | exact ⟨rfl, fun z => absurd z (by decide)⟩
      · intro p'
        walk_at "g"
        refine ⟨p', 1, [], 0, [], rfl, rfl, by simp, by decide, ?_⟩
        walk_at "g"
        exact ⟨_, _, _, [_], rfl, rfl⟩
  · rintro δ' M' ⟨x2, x3, x4, rest, rfl, rfl⟩
    walk_at "g"
    exact q p rest
end
def TPoss : TSp := fun ds M Q _ => ∃ d xs, ds = [d] ∧ LV M d (bookD xs) ∧ PossOk xs ∧ Q .non M
theorem TPoss_mono : Mono TPoss := fun ds M Q Q' E E' h _ ⟨a, b, h1, h2, h3, h4⟩ => ⟨a, b, h1, h2, h3, h _ _ h4⟩
theorem TPoss_len : ∀ ds M Q E, TPoss ds M Q E → ds.length = 1 := fun ds M Q E h => by obtain ⟨_, _, rfl, _⟩ := h; rfl
section
variable {P : Program} {w : World} {K : PySem.W.Frag} {mg : Str → Option Value} {base : Heap}
local macro_rules
  | `(tactic| walk_at "ok") => `(tactic| first
  | ((show BlkOk N_conflict_in (defScope st_conflict_in) _ _); exact blkOk_by (by decide +kernel)))
  | `(tactic| walk_at "tS") => `(tactic| first
  | ((with_reducible refine gS "found" ?_); refine ws_st 1 ?_))
  | `(tactic| walk_at "eWECall") => `(tactic| first
  | ((with_reducible show WE _ _ (Expr.Call (Expr.Name _ _) _ _ _) _ _ _); walk_at "c"))
  | `(tactic| walk_at "n") => `(tactic| first
  | ((with_reducible refine gN "found" ?_); refine we_nm 1 rfl rfl ?_)
  | ((with_reducible refine gN "book" ?_); refine we_nm 0 rfl rfl ?_))
  | `(tactic| walk_at "t") => `(tactic| first
  | ((with_reducible show WS _ _ (Stmt.Assign [Expr.Name _ _] _ _) _ _ _); walk_at "tS")
  | ((with_reducible show WS _ _ (Stmt.Assign [Expr.Tuple _ _ _] _ _) _ _ _); refine ws_asg ?_))
  | `(tactic| walk_at "c") => `(tactic| first
  | ((with_reducible refine gCK "conflicts_in" ?_); refine we_cl "conflicts_in" ?_))
theorem fn_conflict_in {f : Addr} {fd : FuncData} (d_conf : FD P w K mg base 3 "conflicts_in" 1 TConf0) (Fn : L2.Fun K "conflict_in" "conflict_in" st_conflict_in f fd) :
    FnOk P w K mg base (L2.CX P w) 4 f fd ["book"] (spG K TPoss) := by
  refine fn_ok Fn sc_conflict_in rfl TPoss_len ?_
  intro cdv A outer s H E N hr ds M Q X' h
  obtain ⟨d, xs, rfl, hl, hb, q⟩ := h
  show WB _ _ _ [some _, none] _ _
  refine wb_cons ?_
  walk_at "g"
  refine ⟨d, xs, rfl, hl, hb, fun p rest => ?_⟩
  refine wb_drop (List.sublist_append_right _ _) ?_
  refine wb_one (ws_ret (WE.few ?_))
  walk_at "g"
  refine req_dN (p := .list []) (q := .list []) (.cl (ds := []) 0 rfl rfl) (.fz rfl) rfl rfl ?_
  refine ⟨_, rfl, iteQ rfl ?_⟩
  walk_at "g"
  exact ⟨M, List.sublist_cons_self _ _, q⟩
end
section
variable {P : Program} {w : World} {K : PySem.W.Frag} {mg : Str → Option Value} {base : Heap}
local macro_rules
  | `(tactic| walk_at "ok") => `(tactic| first
  | ((show BlkOk N_need_fitting (defScope st_need_fitting) _ _); exact blkOk_by (by decide +kernel)))
  | `(tactic| walk_at "tS") => `(tactic| first
  | ((with_reducible refine gS "conflict" ?_); refine ws_st 1 ?_))
  | `(tactic| walk_at "eWECall") => `(tactic| first
  | ((with_reducible show WE _ _ (Expr.Call (Expr.Name _ _) _ _ _) _ _ _); walk_at "c"))
  | `(tactic| walk_at "n") => `(tactic| first
  | ((with_reducible refine gN "conflict" ?_); refine we_nm 1 rfl rfl ?_)
  | ((with_reducible refine gN "book" ?_); refine we_nm 0 rfl rfl ?_))
  | `(tactic| walk_at "t") => `(tactic| first
  | ((with_reducible show WS _ _ (Stmt.Assign [Expr.Name _ _] _ _) _ _ _); walk_at "tS")
  | ((with_reducible show WS _ _ (Stmt.Assign [Expr.Tuple _ _ _] _ _) _ _ _); refine ws_asg ?_))
  | `(tactic| walk_at "c") => `(tactic| first
  | ((with_reducible refine gCK "conflict_in" ?_); refine we_cl "conflict_in" ?_))
theorem fn_need_fitting {f : Addr} {fd : FuncData} (d_conf : FD P w K mg base 4 "conflict_in" 1 TPoss) (Fn : L2.Fun K "need_fitting" "need_fitting" st_need_fitting f fd) :
    FnOk P w K mg base (L2.CX P w) 5 f fd ["book"] (spG K TPoss) := by
  refine fn_ok Fn sc_need_fitting rfl TPoss_len ?_
  intro cdv A outer s H E N hr ds M Q X' h
  obtain ⟨d, xs, rfl, hl, hb, q⟩ := h
  show WB _ _ _ [some _, none] _ _
  refine wb_cons ?_
  walk_at "g"
  refine ⟨d, xs, rfl, hl, hb, ?_⟩
  walk_at "g"
  exact q
end
section
variable {P : Program} {w : World} {K : PySem.W.Frag} {mg : Str → Option Value} {base : Heap}
local macro_rules
  | `(tactic| walk_at "ok") => `(tactic| first
  | ((show BlkOk N_need_possible (defScope st_need_possible) _ _); exact blkOk_by (by decide +kernel)))
  | `(tactic| walk_at "eWECall") => `(tactic| first
  | ((with_reducible show WE _ _ (Expr.Call (Expr.Name _ _) _ _ _) _ _ _); walk_at "c"))
  | `(tactic| walk_at "n") => `(tactic| first
  | ((with_reducible refine gN "book" ?_); refine we_nm 0 rfl rfl ?_))
  | `(tactic| walk_at "t") => `(tactic| first
  | ((with_reducible show WS _ _ (Stmt.Assign [Expr.Tuple _ _ _] _ _) _ _ _); refine ws_asg ?_))
  | `(tactic| walk_at "c") => `(tactic| first
  | ((with_reducible refine gCK "need_book" ?_); refine we_cl "need_book" ?_)
  | ((with_reducible refine gCK "need_fitting" ?_); refine we_cl "need_fitting" ?_))
theorem fn_need_possible {f : Addr} {fd : FuncData} (d_book : FD P w K mg base 5 "need_book" 1 TNeedBook) (d_fit : FD P w K mg base 5 "need_fitting" 1 TPoss) (Fn : L2.Fun K "need_possible" "need_possible" st_need_possible f fd) :
    FnOk P w K mg base (L2.CX P w) 6 f fd ["book"] (spG K TPoss) := by
  refine fn_ok Fn sc_need_possible rfl TPoss_len ?_
  intro cdv A outer s H E N hr ds M Q X' h
  obtain ⟨d, xs, rfl, hl, hb, q⟩ := h
  show WB _ _ _ [some _] _ _
  refine wb_cons ?_
  walk_at "g"
  refine ⟨d, xs, rfl, hl, hb.1, ?_⟩
  walk_at "g"
  refine ⟨d, xs, rfl, hl, hb, ?_⟩
  walk_at "g"
  exact q
end
/-! VaA -/
set_option exponentiation.threshold 100000
def TGcd0 : TSp := fun ds M Q _ => ∃ a b : Int, ds = [.int a, .int b] ∧ 0 ≤ a ∧ 0 ≤ b ∧ Q (.int (Int.gcd a b)) M
theorem TGcd0_mono : Mono TGcd0 := fun ds M Q Q' E E' h _ ⟨a, b, h1, h2, h3, h4⟩ => ⟨a, b, h1, h2, h3, h _ _ h4⟩
theorem TGcd0_len : ∀ ds M Q E, TGcd0 ds M Q E → ds.length = 2 := fun ds M Q E h => by obtain ⟨_, _, rfl, _⟩ := h; rfl
theorem gcd_mod0 {u v : Int} (hu : 0 ≤ u) (hv : 0 < v) : Int.gcd v (u % v) = Int.gcd u v := by
  show Nat.gcd v.natAbs (u % v).natAbs = Nat.gcd u.natAbs v.natAbs
  rw [Int.natAbs_emod_of_nonneg hu, Nat.gcd_comm u.natAbs v.natAbs, Nat.gcd_rec v.natAbs u.natAbs, Nat.gcd_comm]
section
variable {P : Program} {w : World} {K : PySem.W.Frag} {mg : Str → Option Value} {base : Heap}
local macro_rules
  | `(tactic| walk_at "ok") => `(tactic| first
  | ((show BlkOk N_divisor_of (defScope st_divisor_of) _ _); exact blkOk_by (by decide +kernel)))
  | `(tactic| walk_at "tG") => `(tactic| first
  | ((with_reducible refine gG "one" ?_); refine wg_nm 0 ?_)
  | ((with_reducible refine gG "other" ?_); refine wg_nm 1 ?_))
  | `(tactic| walk_at "n") => `(tactic| first
  | ((with_reducible refine gN "other" ?_); refine we_nm 1 rfl rfl ?_)
  | ((with_reducible refine gN "one" ?_); refine we_nm 0 rfl rfl ?_))
  | `(tactic| walk_at "t") => `(tactic| first
  | ((with_reducible show WG _ _ (Expr.Name _ _) _ _ _ _); walk_at "tG")
  | ((with_reducible show WS _ _ (Stmt.Assign [Expr.Tuple [Expr.Name "one" _, Expr.Name "other" _] _ _] (Expr.Tuple _ _ _) _) _ _ _); first | refine ws_par (i := 0) (j := 1) (by assumption) rfl rfl (by decide) rfl rfl rfl ?_ | refine ws_asg ?_)
  | ((with_reducible show WS _ _ (Stmt.Assign [Expr.Tuple _ _ _] _ _) _ _ _); refine ws_asg ?_))
theorem fn_divisor_of {f : Addr} {fd : FuncData} (Fn : L2.Fun K "divisor_of" "divisor_of" st_divisor_of f fd) :
    FnOk P w K mg base (L2.CX P w) 1 f fd ["one", "other"] (spG K TGcd0) := by
  refine fn_ok Fn sc_divisor_of rfl TGcd0_len ?_
  intro cdv A outer s H E N hr ds M Q X' h
  obtain ⟨a, b, rfl, ha, hb, q⟩ := h
  show WB _ _ _ [some _, some _] _ _
  refine wb_cons ?_
  refine ws_while N (fun m δ' M' => ∃ u v : Int, δ' = [some (.int u), some (.int v)] ∧ M' = M ∧ 0 ≤ u ∧ 0 ≤ v ∧ Int.gcd u v = Int.gcd a b ∧ m = v.toNat) ⟨_, a, b, rfl, rfl, ha, hb, rfl, rfl⟩ ?_
  rintro m δ' M' ⟨u, v, rfl, rfl, hu, hv, hg, rfl⟩
  walk_at "g"
  by_cases h0 : v = 0
  · refine iteQ (by rw [decide_eq_true h0]; rfl) ?_
    walk_at "g"
    subst h0
    rw [← hg, Int.gcd_zero_right, show ((u.natAbs : Nat) : Int) = u by omega] at q
    exact q
  · refine iteP (by rw [decide_eq_false h0]; rfl) ?_
    walk_at "g"
    rotate_left 1
    · omega
    refine ⟨_, _, rfl, ?_⟩
    refine ⟨_, ?_, v, u % v, rfl, rfl, hv, Int.emod_nonneg _ h0, ?_, rfl⟩
    · have := Int.emod_lt_of_pos u (show 0 < v by omega)
      have := Int.emod_nonneg u h0
      omega
    · rw [← hg, gcd_mod0 hu (by omega)]
end
theorem bits_of {i : Int} {n : Nat} (h : i.natAbs ≤ 2 ^ n) (hn : n < 2 ^ 20) : Builtin.Int.intBits i ≤ 2 ^ 20 := by
  have h2 : i.natAbs < 2 ^ (n + 1) := Nat.lt_of_le_of_lt h (Nat.pow_lt_pow_right (by decide) (by omega))
  have := intBits_le h2
  omega
theorem bt {i : Int} {k : Nat} (h : i.natAbs ≤ 2 ^ k) (hk : k ≤ 8000) : Builtin.Int.intBits i ≤ 2 ^ 20 := bits_of h (by omega)
theorem lg {i : Int} {k : Nat} (h : i.natAbs ≤ 2 ^ k) (hk : k ≤ 8000) : i.natAbs.log2 < 9000 := by
  have := log2_lt (i := i) (n := k + 1) (Nat.lt_of_le_of_lt h (Nat.pow_lt_pow_right (by decide) (by omega))) (by omega)
  omega
/-- a factor -/
def TInv : TSp := fun ds M Q _ => ∃ n m : Int, ds = [.int n, .int m] ∧ 0 ≤ n ∧ n.natAbs ≤ 2 ^ 4000 ∧ 0 < m ∧ m.natAbs ≤ 2 ^ 4000 ∧ ∀ r : Int, 0 ≤ r → r < m → m ∣ (Int.gcd n m : Int) - r * n → Q (.int r) M
theorem TInv_mono : Mono TInv := fun ds M Q Q' E E' h _ ⟨n, m, h1, h2, h3, h4, h5, h6⟩ => ⟨n, m, h1, h2, h3, h4, h5, fun r a b c => h _ _ (h6 r a b c)⟩
theorem TInv_len : ∀ ds M Q E, TInv ds M Q E → ds.length = 2 := fun ds M Q E h => by obtain ⟨_, _, rfl, _⟩ := h; rfl
section
variable {P : Program} {w : World} {K : PySem.W.Frag} {mg : Str → Option Value} {base : Heap}
local macro_rules
  | `(tactic| walk_at "ok") => `(tactic| first
  | ((show BlkOk N_inverse_of (defScope st_inverse_of) _ _); exact blkOk_by (by decide +kernel)))
  | `(tactic| walk_at "tS") => `(tactic| first
  | ((with_reducible refine gS "share" ?_); refine ws_st 6 ?_))
  | `(tactic| walk_at "tG") => `(tactic| first
  | ((with_reducible refine gG "one" ?_); refine wg_nm 2 ?_)
  | ((with_reducible refine gG "other" ?_); refine wg_nm 3 ?_)
  | ((with_reducible refine gG "factor" ?_); refine wg_nm 4 ?_)
  | ((with_reducible refine gG "former" ?_); refine wg_nm 5 ?_))
  | `(tactic| walk_at "n") => `(tactic| first
  | ((with_reducible refine gN "other" ?_); refine we_nm 3 rfl rfl ?_)
  | ((with_reducible refine gN "modulus" ?_); refine we_nm 1 rfl rfl ?_)
  | ((with_reducible refine gN "one" ?_); refine we_nm 2 rfl rfl ?_)
  | ((with_reducible refine gN "factor" ?_); refine we_nm 4 rfl rfl ?_)
  | ((with_reducible refine gN "former" ?_); refine we_nm 5 rfl rfl ?_)
  | ((with_reducible refine gN "share" ?_); refine we_nm 6 rfl rfl ?_)
  | ((with_reducible refine gN "number" ?_); refine we_nm 0 rfl rfl ?_))
  | `(tactic| walk_at "t") => `(tactic| first
  | ((with_reducible show WS _ _ (Stmt.Assign [Expr.Name _ _] _ _) _ _ _); walk_at "tS")
  | ((with_reducible show WG _ _ (Expr.Name _ _) _ _ _ _); walk_at "tG")
  | ((with_reducible show WS _ _ (Stmt.Assign [Expr.Tuple _ _ _] _ _) _ _ _); refine ws_asg ?_))
theorem fn_inverse_of {f : Addr} {fd : FuncData} (Fn : L2.Fun K "inverse_of" "inverse_of" st_inverse_of f fd) :
    FnOk P w K mg base (L2.CX P w) 1 f fd ["number", "modulus"] (spG K TInv) := by
  refine fn_ok Fn sc_inverse_of rfl TInv_len ?_
  intro cdv A outer s H E N hr ds M Q X' h
  obtain ⟨n, m, rfl, hn, hnb, hm, hmb, q⟩ := h
  show WB _ _ _ [some _, some _, none, none, none, none, none] _ _
  refine wb_cons ?_
  walk_at "g"
  · refine ws_while N (fun mm δ' M' => ∃ (a b x y : Int) (sh : Option D), δ' = [some (.int n), some (.int m), some (.int a), some (.int b), some (.int x), some (.int y), sh] ∧ M' = M ∧ Eu m n a b x y ∧ a ≤ m ∧ b ≤ m ∧ mm = b.toNat) ⟨_, m, n % m, 0, 1, none, rfl, rfl, Eu.start1 hn hm, Int.le_refl _, Int.le_of_lt (Int.emod_lt_of_pos _ hm), rfl⟩ ?_
    rintro mm δ' M' ⟨a, b, x, y, sh, rfl, rfl, eu, ha, hb, rfl⟩
    have eb := eu.b0
    have ea := eu.a0
    have ex := eu.hx
    have ey := eu.hy
    walk_at "g"
    refine iteN (fun h0 => ?_) (fun h0 => ?_)
    · have hbp : 0 < b := by omega
      have st := eu.step h0
      have hq0 : 0 ≤ a / b := Int.ediv_nonneg ea eb
      have hq1 : a / b ≤ a := Int.ediv_le_self b ea
      have hr1 := Int.emod_lt_of_pos a hbp
      have e1 : a - a / b * b = a % b := by have := Int.emod_add_mul_ediv a b; rw [Int.mul_comm] at this; omega
      have big : ∀ i : Int, i.natAbs ≤ m.natAbs → i.natAbs ≤ 2 ^ 4000 := fun i hi => Nat.le_trans hi hmb
      clear hmb hnb
      walk_at "g"
      all_goals first
        | exact ⟨hbp, by have := lg (big b (by omega)) (by decide); omega⟩
        | exact IntMulOk.of_bits (bt (big _ (by omega)) (by decide)) (bt (big _ (by omega)) (by decide))
        | skip
      refine ⟨_, ?_, b, a % b, y, x - a / b * y, some (.int (a / b)), by rw [e1]; rfl, rfl, st, hb, by omega, rfl⟩
      have := Int.emod_nonneg a h0
      omega
    · subst h0
      walk_at "g"
      rotate_left 1
      · have st := eu.stop
        have e2 := Int.emod_add_mul_ediv x m
        refine q _ (Int.emod_nonneg _ (by omega)) (Int.emod_lt_of_pos _ hm) ?_
        have e3 : (Int.gcd n m : Int) - x % m * n = ((Int.gcd n m : Int) - x * n) + m * (x / m * n) := by
          have : x * n = x % m * n + m * (x / m * n) := by
            conv => lhs; rw [← e2]
            rw [Int.add_mul, Int.mul_assoc]
          omega
        rw [e3]
        exact Int.dvd_add st (Int.dvd_mul_right _ _)
      · exact hm
  · exact hm
end
theorem abs_ediv (z : Int) {d : Int} (hd : 0 < d) : (z / d).natAbs ≤ z.natAbs := by
  by_cases h : z < 0
  · have a := Int.ediv_neg_of_neg_of_pos h hd
    have b : z ≤ z / d := Int.le_ediv_of_mul_le hd (by
      have : z * d ≤ z * 1 := Int.mul_le_mul_of_nonpos_left (by omega) (by omega)
      omega)
    omega
  · have a := Int.ediv_nonneg (show 0 ≤ z by omega) (Int.le_of_lt hd)
    have b := Int.ediv_le_self d (show 0 ≤ z by omega)
    omega
theorem two_le {a b : Int} {k : Nat} (ha : a.natAbs ≤ 2 ^ k) (hb : b.natAbs ≤ 2 ^ k) : (a - b).natAbs ≤ 2 ^ (k + 1) := by
  rw [Nat.pow_succ]
  omega
/-- two classes met: X lies in both -/
def TMet : TSp := fun ds M Q _ => ∃ r1 m1 r2 m2 X : Int, ds = [.tup [.int r1, .int m1], .tup [.int r2, .int m2]] ∧ 0 < m1 ∧ m1.natAbs ≤ 2 ^ 3500 ∧ 0 < m2 ∧ m2.natAbs ≤ 2 ^ 300 ∧ 0 ≤ r1 ∧ r1 < m1 ∧ r2.natAbs ≤ 2 ^ 3500 ∧ m1 ∣ X - r1 ∧ m2 ∣ X - r2 ∧
  ∀ R, 0 ≤ R → R < m1 * (m2 / (Int.gcd m1 m2 : Int)) → m1 * (m2 / (Int.gcd m1 m2 : Int)) ∣ X - R → Q (.tup [.int R, .int (m1 * (m2 / (Int.gcd m1 m2 : Int)))]) M
theorem TMet_mono : Mono TMet := fun ds M Q Q' E E' h _ ⟨r1, m1, r2, m2, X, h1, h2, h3, h4, h5, h6, h7, h8, h9, h10, h11⟩ => ⟨r1, m1, r2, m2, X, h1, h2, h3, h4, h5, h6, h7, h8, h9, h10, fun R a b c => h _ _ (h11 R a b c)⟩
theorem TMet_len : ∀ ds M Q E, TMet ds M Q E → ds.length = 2 := fun ds M Q E h => by obtain ⟨_, _, _, _, _, rfl, _⟩ := h; rfl
section
variable {P : Program} {w : World} {K : PySem.W.Frag} {mg : Str → Option Value} {base : Heap}
local macro_rules
  | `(tactic| walk_at "ok") => `(tactic| first
  | ((show BlkOk N_met (defScope st_met) _ _); exact blkOk_by (by decide +kernel)))
  | `(tactic| walk_at "tS") => `(tactic| first
  | ((with_reducible refine gS "divisor" ?_); refine ws_st 2 ?_)
  | ((with_reducible refine gS "part" ?_); refine ws_st 3 ?_)
  | ((with_reducible refine gS "rounds" ?_); refine ws_st 4 ?_))
  | `(tactic| walk_at "eWECall") => `(tactic| first
  | ((with_reducible show WE _ _ (Expr.Call (Expr.Name _ _) _ _ _) _ _ _); walk_at "c"))
  | `(tactic| walk_at "n") => `(tactic| first
  | ((with_reducible refine gN "one" ?_); refine we_nm 0 rfl rfl ?_)
  | ((with_reducible refine gN "other" ?_); refine we_nm 1 rfl rfl ?_)
  | ((with_reducible refine gN "divisor" ?_); refine we_nm 2 rfl rfl ?_)
  | ((with_reducible refine gN "part" ?_); refine we_nm 3 rfl rfl ?_)
  | ((with_reducible refine gN "rounds" ?_); refine we_nm 4 rfl rfl ?_))
  | `(tactic| walk_at "t") => `(tactic| first
  | ((with_reducible show WS _ _ (Stmt.Assign [Expr.Name _ _] _ _) _ _ _); walk_at "tS")
  | ((with_reducible show WS _ _ (Stmt.Assign [Expr.Tuple _ _ _] _ _) _ _ _); refine ws_asg ?_))
  | `(tactic| walk_at "c") => `(tactic| first
  | ((with_reducible refine gCK "divisor_of" ?_); refine we_cl "divisor_of" ?_)
  | ((with_reducible refine gCK "inverse_of" ?_); refine we_cl "inverse_of" ?_))
theorem fn_met {f : Addr} {fd : FuncData} (d_gcd : FD P w K mg base 1 "divisor_of" 2 TGcd0) (d_inv : FD P w K mg base 1 "inverse_of" 2 TInv) (Fn : L2.Fun K "met" "met" st_met f fd) :
    FnOk P w K mg base (L2.CX P w) 2 f fd ["one", "other"] (spG K TMet) := by
  refine fn_ok Fn sc_met rfl TMet_len ?_
  intro cdv A outer s H E N hr ds M Q X' h
  obtain ⟨r1, m1, r2, m2, X, rfl, h1, h1b, h2, h2b, hr0, hr1, hrb, c1, c2, q⟩ := h
  have hd : 0 < (Int.gcd m1 m2 : Int) := by
    have : 0 < Int.gcd m1 m2 := Int.gcd_pos_of_ne_zero_left _ (by omega)
    omega
  have d1 : (Int.gcd m1 m2 : Int) ∣ m1 := Int.gcd_dvd_left ..
  have d2 : (Int.gcd m1 m2 : Int) ∣ m2 := Int.gcd_dvd_right ..
  have hd2 : (Int.gcd m1 m2 : Int) ≤ m2 := Int.le_of_dvd h2 d2
  show WB _ _ _ [some _, some _, none, none, none] _ _
  refine wb_cons ?_
  walk_at "g"
  refine ⟨m1, m2, rfl, by omega, by omega, ?_⟩
  have a0 : 0 ≤ m1 / (Int.gcd m1 m2 : Int) := Int.ediv_nonneg (by omega) (by omega)
  have b0 : 0 < m2 / (Int.gcd m1 m2 : Int) := Int.ediv_pos_of_pos_of_dvd h2 (by omega) d2
  have cop : Int.gcd (m1 / (Int.gcd m1 m2 : Int)) (m2 / (Int.gcd m1 m2 : Int)) = 1 := Int.gcd_ediv_gcd_ediv_gcd (by omega)
  have g1 : m1.natAbs ≤ 2 ^ 4000 := Nat.le_trans h1b (Nat.pow_le_pow_right (by decide) (by decide))
  have g2 : m2.natAbs ≤ 2 ^ 4000 := Nat.le_trans h2b (Nat.pow_le_pow_right (by decide) (by decide))
  have ga : (m1 / (Int.gcd m1 m2 : Int)).natAbs ≤ 2 ^ 4000 := Nat.le_trans (abs_ediv m1 hd) g1
  have gb : (m2 / (Int.gcd m1 m2 : Int)).natAbs ≤ 2 ^ 4000 := Nat.le_trans (abs_ediv m2 hd) g2
  have gr : ((r2 - r1) / (Int.gcd m1 m2 : Int)).natAbs ≤ 2 ^ 3501 := Nat.le_trans (abs_ediv _ hd) (two_le hrb (Nat.le_trans (by omega) h1b))
  have gd : (Int.gcd m1 m2 : Int).natAbs ≤ 2 ^ 4000 := Nat.le_trans (by omega) g2
  have lgd := lg gd (by decide)
  have law := fun f => met_law (X := X) (r1 := r1) (r2 := r2) (f := f) h1 h2 c1 c2
  generalize (Int.gcd m1 m2 : Int) = d at *
  generalize hA : m1 / d = a at *
  generalize hB : m2 / d = b at *
  clear g2 h2b hrb
  walk_at "g"
  all_goals first
    | exact ⟨hd, by omega⟩
    | skip
  rw [hA, hB]
  refine ⟨a, b, rfl, a0, ga, b0, gb, fun f f0 f1 hf => ?_⟩
  rw [cop] at hf
  have hf2 := law f hf
  have gf : f.natAbs ≤ 2 ^ 4000 := Nat.le_trans (by omega) gb
  have rn0 := Int.emod_nonneg ((r2 - r1) / d * f) (show b ≠ 0 by omega)
  have rn1 := Int.emod_lt_of_pos ((r2 - r1) / d * f) b0
  have grn : ((r2 - r1) / d * f % b).natAbs ≤ 2 ^ 4000 := Nat.le_trans (by omega) gb
  walk_at "g"
  all_goals first
    | exact IntMulOk.of_bits (bt gr (by decide)) (bt gf (by decide))
    | exact IntMulOk.of_bits (bt g1 (by decide)) (bt grn (by decide))
    | exact IntMulOk.of_bits (bt g1 (by decide)) (bt gb (by decide))
    | exact b0
    | skip
  generalize (r2 - r1) / d * f % b = rn at *
  refine q _ ?_ ?_ hf2
  · have : 0 ≤ m1 * rn := Int.mul_nonneg (by omega) rn0
    omega
  · have : m1 * rn ≤ m1 * (b - 1) := Int.mul_le_mul_of_nonneg_left (by omega) (by omega)
    rw [Int.mul_sub] at this
    omega
end
/-! VaB -/
set_option exponentiation.threshold 100000
/-- the class of what can stand at pl: X fits all -/
def TClsBy : TSp := fun ds M Q _ => ∃ (d : D) (xs : List (Int × Int)) (pl X : Int) (n b : Nat), ds = [d, .int pl] ∧ LV M d (bookD xs) ∧ (xs.length ≤ n ∧ b ≤ 110 ∧ (b + 2) * n ≤ 3500) ∧ (∀ x ∈ xs, (pl - x.1).natAbs ≤ 2 ^ (b + 1)) ∧ (∀ x ∈ xs, (pl - x.1) ∣ (X - x.2)) ∧
  ((∃ x ∈ xs, x.1 = pl) → Q (.tup [.int X, .int 0]) M) ∧ ((∀ x ∈ xs, x.1 ≠ pl) → ∀ L, IsL (xs.map fun x => pl - x.1) L → Q (.tup [.int (X % L), .int L]) M)
theorem TClsBy_mono : Mono TClsBy := fun ds M Q Q' E E' h _ ⟨d, xs, pl, X, n, b, h1, h2, h3, h4, h6, h7, h8⟩ => ⟨d, xs, pl, X, n, b, h1, h2, h3, h4, h6, fun a => h _ _ (h7 a), fun a L b => h _ _ (h8 a L b)⟩
theorem TClsBy_len : ∀ ds M Q E, TClsBy ds M Q E → ds.length = 2 := fun ds M Q E h => by obtain ⟨_, _, _, _, _, _, rfl, _⟩ := h; rfl
section
variable {P : Program} {w : World} {K : PySem.W.Frag} {mg : Str → Option Value} {base : Heap}
local macro_rules
  | `(tactic| walk_at "ok") => `(tactic| first
  | ((show BlkOk N_class_by (defScope st_class_by) _ _); exact blkOk_by (by decide +kernel)))
  | `(tactic| walk_at "tS") => `(tactic| first
  | ((with_reducible refine gS "found" ?_); refine ws_st 2 ?_)
  | ((with_reducible refine gS "far" ?_); refine ws_st 5 ?_))
  | `(tactic| walk_at "tG") => `(tactic| first
  | ((with_reducible refine gG "told" ?_); refine wg_nm 3 ?_)
  | ((with_reducible refine gG "value" ?_); refine wg_nm 4 ?_))
  | `(tactic| walk_at "eWECall") => `(tactic| first
  | ((with_reducible refine gC "abs" ?_); refine we_abs rfl (by assumption) ?_)
  | ((with_reducible show WE _ _ (Expr.Call (Expr.Name _ _) _ _ _) _ _ _); walk_at "c"))
  | `(tactic| walk_at "n") => `(tactic| first
  | ((with_reducible refine gN "place" ?_); refine we_nm 1 rfl rfl ?_)
  | ((with_reducible refine gN "found" ?_); refine we_nm 2 rfl rfl ?_)
  | ((with_reducible refine gN "told" ?_); refine we_nm 3 rfl rfl ?_)
  | ((with_reducible refine gN "value" ?_); refine we_nm 4 rfl rfl ?_)
  | ((with_reducible refine gN "far" ?_); refine we_nm 5 rfl rfl ?_)
  | ((with_reducible refine gN "items" ?_); refine we_nm 0 rfl rfl ?_))
  | `(tactic| walk_at "t") => `(tactic| first
  | ((with_reducible show WS _ _ (Stmt.Assign [Expr.Name _ _] _ _) _ _ _); walk_at "tS")
  | ((with_reducible show WG _ _ (Expr.Name _ _) _ _ _ _); walk_at "tG")
  | ((with_reducible show WS _ _ (Stmt.Assign [Expr.Tuple _ _ _] _ _) _ _ _); refine ws_asg ?_))
  | `(tactic| walk_at "c") => `(tactic| first
  | ((with_reducible refine gCK "met" ?_); refine we_cl "met" ?_))
theorem fn_class_by {f : Addr} {fd : FuncData} (b_abs : mg "abs" = none) (d_met : FD P w K mg base 2 "met" 2 TMet) (Fn : L2.Fun K "class_by" "class_by" st_class_by f fd) :
    FnOk P w K mg base (L2.CX P w) 3 f fd ["items", "place"] (spG K TClsBy) := by
  refine fn_ok Fn sc_class_by rfl TClsBy_len ?_
  intro cdv A outer s H E N hr ds M Q X' h
  obtain ⟨d, xs, pl, X, nn, bb, rfl, hl, ⟨h24, hb110, hnb⟩, hb, hX, q1, q2⟩ := h
  show WB _ _ _ [some _, some _, none, none, none, none] _ _
  refine wb_cons ?_
  walk_at "g"
  refine ws_for N (wi_list ?_)
  walk_at "g"
  refine ⟨_, hl, fun j δ' M' => ∃ (R L : Int) (x3 x4 x5 : Option D), δ' = [some d, some (.int pl), some (.tup [.int R, .int L]), x3, x4, x5] ∧ M' = M ∧ IsL ((xs.take j).map fun x => pl - x.1) L ∧ (∀ x ∈ xs.take j, x.1 ≠ pl) ∧ L.natAbs ≤ 2 ^ ((bb + 2) * j) ∧ 0 ≤ R ∧ R < L ∧ L ∣ X - R, ?_, ?_, ?_, ?_⟩
  · exact ⟨0, 1, none, none, none, rfl, rfl, IsL.nil, by simp, by simp, by decide, by decide, Int.one_dvd _⟩
  · rintro i δ' M' _ ⟨R, L, x3, x4, x5, rfl, rfl, _⟩
    exact hl
  · rintro j d1 δ' M' hd ⟨R, L, x3, x4, x5, rfl, rfl, hL, hne, hLb, hR0, hR1, hRX⟩
    obtain ⟨⟨u, v⟩, hx, rfl⟩ : ∃ x, xs[j]? = some x ∧ d1 = itemD x := by
      unfold bookD at hd
      rw [List.getElem?_map] at hd
      cases hxj : xs[j]? with
      | none => rw [hxj] at hd; cases hd
      | some x => rw [hxj] at hd; exact ⟨x, rfl, (Option.some.inj hd).symm⟩
    have hxm := List.mem_of_getElem? hx
    have hj : j < xs.length := (List.getElem?_eq_some_iff.mp hx).1
    have ub : (pl - u).natAbs ≤ 2 ^ (bb + 1) := hb _ hxm
    have dv : (pl - u) ∣ (X - v) := hX _ hxm
    show WG _ _ _ (D.tup [.int u, .int v]) _ _ _
    walk_at "g"
    refine iteD (fun h0 => ?_) (fun h0 => ?_)
    · walk_at "g"
      have : X = v := by
        rw [h0, Int.sub_self, Int.zero_dvd] at dv
        omega
      rw [← this]
      exact q1 ⟨_, hxm, h0⟩
    · walk_at "g"
      rotate_left 1
      · split <;> omega
      have tk : xs.take (j + 1) = xs.take j ++ [(u, v)] := by rw [List.take_add_one, hx]; rfl
      have fe : (if pl - u < 0 then -(pl - u) else pl - u) = pl - u ∨ (if pl - u < 0 then -(pl - u) else pl - u) = -(pl - u) := by split <;> omega
      have f0 : 0 < (if pl - u < 0 then -(pl - u) else pl - u) := by split <;> omega
      have fb : (if pl - u < 0 then -(pl - u) else pl - u).natAbs ≤ 2 ^ (bb + 1) := by
        split <;> omega
      generalize (if pl - u < 0 then -(pl - u) else pl - u) = far at *
      have dv2 : far ∣ X - v % far := by
        have h1 : far ∣ X - v := by
          rcases fe with e | e
          · rw [e]; exact dv
          · rw [e]; exact Int.neg_dvd.mpr dv
        have h2 := Int.emod_add_mul_ediv v far
        have : X - v % far = (X - v) + far * (v / far) := by omega
        rw [this]
        exact Int.dvd_add h1 (Int.dvd_mul_right _ _)
      all_goals first
        | exact f0
        | skip
      have v0 := Int.emod_nonneg v (show far ≠ 0 by omega)
      have v1 := Int.emod_lt_of_pos v f0
      refine ⟨R, L, v % far, far, X, rfl, hL.1, Nat.le_trans hLb (Nat.pow_le_pow_right (by decide) (Nat.le_trans (Nat.mul_le_mul (Nat.le_refl _) (show j ≤ nn by omega)) (Nat.le_trans hnb (by decide)))), f0, Nat.le_trans fb (Nat.pow_le_pow_right (by decide) (by omega)), hR0, hR1, Nat.le_trans (show (v % far).natAbs ≤ far.natAbs by omega) (Nat.le_trans fb (Nat.pow_le_pow_right (by decide) (by omega))), hRX, dv2, fun R' a0 a1 a2 => ?_⟩
      walk_at "g"
      have gp : 0 < (Int.gcd L far : Int) := by
        have : 0 < Int.gcd L far := Int.gcd_pos_of_ne_zero_right _ (by omega)
        omega
      refine ⟨R', _, _, _, _, rfl, rfl, ?_, ?_, ?_, a0, a1, a2⟩
      · rw [tk, List.map_append]
        exact hL.snoc f0 fe
      · rw [tk]
        intro x hx
        rcases List.mem_append.mp hx with hx | hx
        · exact hne x hx
        · rw [List.mem_singleton.mp hx]; exact h0
      · rw [Int.natAbs_mul, show (bb + 2) * (j + 1) = (bb + 2) * j + (bb + 2) from Nat.mul_succ .., Nat.pow_add]
        exact Nat.mul_le_mul hLb (Nat.le_trans (abs_ediv far gp) (Nat.le_trans fb (Nat.pow_le_pow_right (by decide) (by omega))))
  · rintro δ' M' ⟨R, L, x3, x4, x5, rfl, rfl, hL, hne, hLb, hR0, hR1, hRX⟩
    have e : xs.take (bookD xs).length = xs := by unfold bookD; rw [List.length_map, List.take_length]
    rw [e] at hL hne
    walk_at "g"
    have : X % L = R := by
      have h := Int.emod_emod_of_dvd X (Int.dvd_refl L)
      have a := Int.emod_eq_emod_iff_emod_sub_eq_zero.mpr (Int.emod_eq_zero_of_dvd hRX)
      rw [a, Int.emod_eq_of_lt hR0 hR1]
    rw [← this]
    exact q2 hne L hL
end
/-! ErA -/
set_option exponentiation.threshold 100000
def itAt (xs : List (Int × Int)) (i : Nat) : Int × Int := xs.getD i (0, 0)
theorem itAt_get {xs : List (Int × Int)} {i : Nat} (h : i < xs.length) : xs[i]? = some (itAt xs i) := by
  unfold itAt
  rw [List.getD_eq_getElem?_getD, List.getElem?_eq_getElem h]; rfl
def unfit (xs : List (Int × Int)) (i j : Nat) : Bool := !decide (Fit (itAt xs i) (itAt xs j))
def confRow (xs : List (Int × Int)) (i : Nat) : List (Nat × Nat) := (((List.range (xs.length - (i + 1))).map fun k => i + 1 + k).filter (unfit xs i)).map fun j => (i, j)
def confTo (xs : List (Int × Int)) : Nat → List (Nat × Nat)
  | 0 => []
  | n + 1 => confTo xs n ++ confRow xs n
def confs (xs : List (Int × Int)) : List (Nat × Nat) := confTo xs xs.length
def ij (p : Nat × Nat) : Int × Int := (p.1, p.2)
/-- as items -/
def confD (l : List (Nat × Nat)) : List D := bookD (l.map ij)
theorem confD_app (a b : List (Nat × Nat)) : confD (a ++ b) = confD a ++ confD b := by unfold confD bookD; rw [List.map_append, List.map_append]
theorem confRow_mem {xs : List (Int × Int)} {i a b : Nat} : (a, b) ∈ confRow xs i ↔ a = i ∧ i < b ∧ b < xs.length ∧ unfit xs i b = true := by
  unfold confRow
  constructor
  · intro h
    obtain ⟨j, hj, e⟩ := List.mem_map.mp h
    obtain ⟨h1, h2⟩ := List.mem_filter.mp hj
    obtain ⟨k, hk, rfl⟩ := List.mem_map.mp h1
    have := List.mem_range.mp hk
    cases e
    exact ⟨rfl, by omega, by omega, h2⟩
  · rintro ⟨rfl, h1, h2, h3⟩
    refine List.mem_map.mpr ⟨b, List.mem_filter.mpr ⟨List.mem_map.mpr ⟨b - (a + 1), List.mem_range.mpr (by omega), by omega⟩, h3⟩, rfl⟩
theorem confTo_mem {xs : List (Int × Int)} {a b : Nat} : ∀ n, (a, b) ∈ confTo xs n ↔ a < n ∧ a < b ∧ b < xs.length ∧ unfit xs a b = true
  | 0 => by simp [confTo]
  | n + 1 => by
    show (a, b) ∈ confTo xs n ++ confRow xs n ↔ _
    rw [List.mem_append, confTo_mem n, confRow_mem]
    constructor
    · rintro (⟨h1, h2⟩ | ⟨rfl, h2⟩)
      · exact ⟨by omega, h2⟩
      · exact ⟨by omega, h2⟩
    · rintro ⟨h1, h2⟩
      by_cases e : a = n
      · subst e; exact .inr ⟨rfl, h2⟩
      · exact .inl ⟨by omega, h2⟩
theorem confs_mem {xs : List (Int × Int)} {a b : Nat} : (a, b) ∈ confs xs ↔ a < b ∧ b < xs.length ∧ unfit xs a b = true := by
  unfold confs
  rw [confTo_mem]
  exact ⟨fun h => h.2, fun h => ⟨by omega, h⟩⟩
theorem Fit.symm' {x y : Int × Int} (h : Fit x y) : Fit y x := by
  have := Int.dvd_neg.mpr (Int.neg_dvd.mpr h)
  rwa [Int.neg_sub, Int.neg_sub] at this
theorem Fit.refl' (x : Int × Int) : Fit x x := by
  show (x.1 - x.1) ∣ (x.2 - x.2)
  rw [Int.sub_self, Int.sub_self]; exact Int.dvd_refl _
theorem confs_nil {xs : List (Int × Int)} : confs xs = [] ↔ ∀ x ∈ xs, ∀ y ∈ xs, Fit x y := by
  constructor
  · intro h x hx y hy
    obtain ⟨i, hi⟩ := List.getElem?_of_mem hx
    obtain ⟨j, hj⟩ := List.getElem?_of_mem hy
    have li := (List.getElem?_eq_some_iff.mp hi).1
    have lj := (List.getElem?_eq_some_iff.mp hj).1
    have ei : itAt xs i = x := Option.some.inj ((itAt_get li).symm.trans hi)
    have ej : itAt xs j = y := Option.some.inj ((itAt_get lj).symm.trans hj)
    have key : ∀ a b : Nat, a < b → b < xs.length → Fit (itAt xs a) (itAt xs b) := fun a b hab hb => by
      apply Decidable.byContradiction
      intro hn
      have : (a, b) ∈ confs xs := confs_mem.mpr ⟨hab, hb, by unfold unfit; rw [decide_eq_false hn]; rfl⟩
      rw [h] at this
      cases this
    rcases Nat.lt_trichotomy i j with g | g | g
    · rw [← ei, ← ej]; exact key i j g lj
    · subst g; rw [← ei, ← ej]; exact Fit.refl' _
    · rw [← ei, ← ej]; exact (key j i g li).symm'
  · intro h
    rw [List.eq_nil_iff_forall_not_mem]
    rintro ⟨a, b⟩ hab
    obtain ⟨h1, h2, h3⟩ := confs_mem.mp hab
    unfold unfit at h3
    rw [decide_eq_true (h _ (List.mem_of_getElem? (itAt_get (by omega))) _ (List.mem_of_getElem? (itAt_get h2)))] at h3
    cases h3
theorem confTo_len (xs : List (Int × Int)) : ∀ n, (confTo xs n).length ≤ n * xs.length
  | 0 => by simp [confTo]
  | n + 1 => by
    show (confTo xs n ++ confRow xs n).length ≤ _
    have a := confTo_len xs n
    have b : (confRow xs n).length ≤ xs.length := by
      unfold confRow
      rw [List.length_map]
      refine Nat.le_trans (List.length_filter_le ..) ?_
      rw [List.length_map, List.length_range]
      omega
    rw [List.length_append, Nat.add_mul, Nat.one_mul]
    omega
def TConfs : TSp := fun ds M Q _ => ∃ d xs, ds = [d] ∧ LV M d (bookD xs) ∧ xs.length ≤ 60 ∧ ∀ p rest, Q (.cel p) (rest ++ (p, .lst (confD (confs xs))) :: M)
theorem TConfs_mono : Mono TConfs := fun ds M Q Q' E E' h _ ⟨a, b, h1, h2, h3, h4⟩ => ⟨a, b, h1, h2, h3, fun p r => h _ _ (h4 p r)⟩
theorem TConfs_len : ∀ ds M Q E, TConfs ds M Q E → ds.length = 1 := fun ds M Q E h => by obtain ⟨_, _, rfl, _⟩ := h; rfl
def kUn (xs : List (Int × Int)) (i : Nat) : D → Bool
  | .int j => unfit xs i j.toNat
  | _ => false
def fPr (i : Nat) : D → D
  | .int j => .tup [.int (i : Nat), .int j]
  | _ => .non
theorem confRow_D (xs : List (Int × Int)) (i : Nat) : ((rangeD ((i : Int) + 1) (xs.length - (i + 1))).filter (kUn xs i)).map (fPr i) = confD (confRow xs i) := by
  unfold confRow confD bookD rangeD
  rw [List.filter_map, List.filter_map, List.map_map, List.map_map, List.map_map, List.map_map]
  have ef : (kUn xs i ∘ fun k : Nat => D.int ((i : Int) + 1 + (k : Nat))) = (unfit xs i ∘ fun k => i + 1 + k) := by
    funext k
    show unfit xs i ((i : Int) + 1 + (k : Nat)).toNat = unfit xs i (i + 1 + k)
    rw [show ((i : Int) + 1 + (k : Nat)).toNat = i + 1 + k by omega]
  have eg : (fPr i ∘ fun k : Nat => D.int ((i : Int) + 1 + (k : Nat))) = (itemD ∘ ij ∘ (fun j => (i, j)) ∘ fun k => i + 1 + k) := by
    funext k
    show D.tup [.int (i : Nat), .int ((i : Int) + 1 + (k : Nat))] = D.tup [.int ((i : Nat) : Int), .int ((i + 1 + k : Nat) : Int)]
    rw [show ((i : Int) + 1 + (k : Nat)) = ((i + 1 + k : Nat) : Int) by omega]
  rw [ef, eg]
  rfl
section
variable {P : Program} {w : World} {K : PySem.W.Frag} {mg : Str → Option Value} {base : Heap}
local macro_rules
  | `(tactic| walk_at "ok") => `(tactic| first
  | ((show BlkOk N_conflicts_in (defScope st_conflicts_in) _ _); exact blkOk_by (by decide +kernel)))
  | `(tactic| walk_at "tS") => `(tactic| first
  | ((with_reducible refine gS "found" ?_); refine ws_st 1 ?_))
  | `(tactic| walk_at "tG") => `(tactic| first
  | ((with_reducible refine gG "first" ?_); refine wg_nm 2 ?_)
  | ((with_reducible refine gG "one" ?_); refine wg_nm 3 ?_)
  | ((with_reducible refine gG "second" ?_); refine wg_nm 4 ?_))
  | `(tactic| walk_at "eWECall") => `(tactic| first
  | ((with_reducible refine gC "len" ?_); refine we_len rfl (by assumption) ?_)
  | ((with_reducible show WE _ _ (Expr.Call (Expr.Name _ _) _ _ _) _ _ _); walk_at "c"))
  | `(tactic| walk_at "n") => `(tactic| first
  | ((with_reducible refine gN "book" ?_); refine we_nm 0 rfl rfl ?_)
  | ((with_reducible refine gN "found" ?_); refine we_nm 1 rfl rfl ?_)
  | ((with_reducible refine gN "first" ?_); refine we_nm 2 rfl rfl ?_)
  | ((with_reducible refine gN "second" ?_); refine we_nm 4 rfl rfl ?_)
  | ((with_reducible refine gN "one" ?_); refine we_nm 3 rfl rfl ?_))
  | `(tactic| walk_at "t") => `(tactic| first
  | ((with_reducible show WS _ _ (Stmt.Assign [Expr.Name _ _] _ _) _ _ _); walk_at "tS")
  | ((with_reducible show WG _ _ (Expr.Name _ _) _ _ _ _); walk_at "tG")
  | ((with_reducible show WS _ _ (Stmt.Assign [Expr.Tuple _ _ _] _ _) _ _ _); refine ws_asg ?_))
  | `(tactic| walk_at "c") => `(tactic| first
  | ((with_reducible refine gCK "do_fit" ?_); refine we_cl "do_fit" ?_))
  | `(tactic| walk_at "tg") => `(tactic| first
  | exact Tg.one (i := 4) rfl rfl)
theorem fn_conflicts_inG {f : Addr} {fd : FuncData} (b_enum : mg "enumerate" = none) (b_range : mg "range" = none) (b_len : mg "len" = none) (d_fit : FD P w K mg base 2 "do_fit" 2 TFit) (Fn : L2.Fun K "conflicts_in" "conflicts_in" st_conflicts_in f fd) :
    FnOk P w K mg base (L2.CX P w) 3 f fd ["book"] (spG K TConfs) := by
  refine fn_ok Fn sc_conflicts_in rfl TConfs_len ?_
  intro cdv A outer s H E N hr ds M Q X' h
  obtain ⟨d, xs, rfl, hl, hb, q⟩ := h
  show WB _ _ _ [some _, none, none, none, none] _ _
  have hbl : (bookD xs).length = xs.length := by unfold bookD; rw [List.length_map]
  refine wb_cons ?_
  walk_at "t"
  refine we_lstC ?_
  walk_at "g"
  intro p
  walk_at "g"
  refine ws_for N (wi_enum rfl (by assumption) ?_)
  walk_at "g"
  refine ⟨_, bookD xs, rfl, hl.cons, fun j δ' M' => ∃ (x2 x3 x4 : Option D) (rest : Cells), δ' = [some d, some (.cel p), x2, x3, x4] ∧ M' = rest ++ (p, .lst (confD (confTo xs j))) :: M, ?_, ?_, ?_, ?_⟩
  · exact ⟨none, none, none, [], rfl, rfl⟩
  · rintro j δ' M' _ ⟨x2, x3, x4, rest, rfl, rfl⟩
    exact hl.cons.app rest
  · rintro j d' δ' M' hd ⟨x2, x3, x4, rest, rfl, rfl⟩
    obtain ⟨u, hu, rfl⟩ := enumD_inv hd
    unfold bookD at hu
    rw [List.getElem?_map] at hu
    cases e1 : xs[j]? with
    | none => rw [e1] at hu; cases hu
    | some x =>
      obtain rfl : u = itemD x := by rw [e1] at hu; exact (Option.some.inj hu).symm
      have hj := (List.getElem?_eq_some_iff.mp e1).1
      have ex : itAt xs j = x := Option.some.inj ((itAt_get hj).symm.trans e1)
      walk_at "s"
      walk_at "s"
      walk_at "t"
      walk_at "s"
      walk_at "t"
      walk_at "s"
      refine wb_drop (List.sublist_append_right _ _) ?_
      walk_at "g"
      refine we_extend ?_
      walk_at "g"
      refine we_lcF (kUn xs j) (fPr j) N (by walk_at "tg") (by walk_at "ok") (wi_range2 rfl (by assumption) ?_)
      walk_at "g"
      refine Sq.len (.inl ⟨rfl, hl.cons⟩) ?_
      walk_at "g"
      refine ⟨_, _, rfl, ⟨by omega, by omega, by omega, by omega⟩, ?_, fun _ _ => trivial, ?_, ?_⟩
      · rw [rangeD_len, hbl, sizeLine_eq]; omega
      · intro i d2 acc p' hd2
        obtain ⟨hi, rfl⟩ := rangeD_inv hd2
        rw [hbl] at hi
        have hi2 : j + 1 + i < xs.length := by omega
        have ey : (bookD xs)[j + 1 + i]? = some (itemD (itAt xs (j + 1 + i))) := by unfold bookD; rw [List.getElem?_map, itAt_get hi2]; rfl
        have en : (j : Int) + 1 + (i : Nat) = ((j + 1 + i : Nat) : Int) := by omega
        refine ⟨_, rfl, fun B => ?_⟩
        walk_at "g"
        refine Sq.ix (.inl ⟨rfl, hl.cons.cons⟩) (z := itemD (itAt xs (j + 1 + i))) (by rw [en]; exact atI_nat ey) ?_
        walk_at "g"
        refine ⟨x, itAt xs (j + 1 + i), rfl, ?_⟩
        walk_at "g"
        have eu : (!decide (Fit x (itAt xs (j + 1 + i)))) = kUn xs j (.int ((j : Int) + 1 + (i : Nat))) := by
          show _ = unfit xs j ((j : Int) + 1 + (i : Nat)).toNat
          rw [en]
          show _ = unfit xs j (j + 1 + i)
          unfold unfit
          rw [ex]
        refine ⟨rfl, eu, fun _ B => ?_⟩
        walk_at "g"
        exact ⟨rfl, rfl⟩
      · intro p'
        rw [hbl, show ((xs.length : Int) - ((j : Int) + 1)).toNat = xs.length - (j + 1) by omega, confRow_D]
        walk_at "g"
        have l1 := confTo_len xs j
        have l2 := confTo_len xs (j + 1)
        have l3 : (j + 1) * xs.length ≤ 60 * 60 := Nat.mul_le_mul (by omega) hb
        have l4 : (confTo xs (j + 1)).length = (confTo xs j).length + (confRow xs j).length := List.length_append
        have dl : ∀ l : List (Nat × Nat), (confD l).length = l.length := fun l => by unfold confD bookD; rw [List.length_map, List.length_map]
        refine ⟨p', 1, confD (confTo xs j), 0, confD (confRow xs j), rfl, rfl, by simp, ?_, ?_⟩
        · rw [dl, dl, sizeLine_eq]; omega
        walk_at "g"
        refine ⟨_, _, _, [(p', .lst (confD (confRow xs j)))], rfl, ?_⟩
        show _ = _ :: (p, Cell.lst (confD (confTo xs j ++ confRow xs j))) :: M
        rw [confD_app]
        rfl
  · rintro δ' M' ⟨x2, x3, x4, rest, rfl, rfl⟩
    rw [enumD_len, hbl]
    walk_at "g"
    exact q p rest
end
/-! ErB -/
set_option exponentiation.threshold 100000
/-- the least pair, or None -/
def leastD : List (Nat × Nat) → D
  | [] => .non
  | p :: _ => .tup [.int (p.1 : Nat), .int (p.2 : Nat)]
def TConfl : TSp := fun ds M Q _ => ∃ d xs, ds = [d] ∧ LV M d (bookD xs) ∧ xs.length ≤ 60 ∧ Q (leastD (confs xs)) M
theorem TConfl_mono : Mono TConfl := fun ds M Q Q' E E' h _ ⟨a, b, h1, h2, h3, h4⟩ => ⟨a, b, h1, h2, h3, h _ _ h4⟩
theorem TConfl_len : ∀ ds M Q E, TConfl ds M Q E → ds.length = 1 := fun ds M Q E h => by obtain ⟨_, _, rfl, _⟩ := h; rfl
section
variable {P : Program} {w : World} {K : PySem.W.Frag} {mg : Str → Option Value} {base : Heap}
local macro_rules
  | `(tactic| walk_at "ok") => `(tactic| first
  | ((show BlkOk N_conflict_in (defScope st_conflict_in) _ _); exact blkOk_by (by decide +kernel)))
  | `(tactic| walk_at "tS") => `(tactic| first
  | ((with_reducible refine gS "found" ?_); refine ws_st 1 ?_))
  | `(tactic| walk_at "eWECall") => `(tactic| first
  | ((with_reducible show WE _ _ (Expr.Call (Expr.Name _ _) _ _ _) _ _ _); walk_at "c"))
  | `(tactic| walk_at "n") => `(tactic| first
  | ((with_reducible refine gN "found" ?_); refine we_nm 1 rfl rfl ?_)
  | ((with_reducible refine gN "book" ?_); refine we_nm 0 rfl rfl ?_))
  | `(tactic| walk_at "t") => `(tactic| first
  | ((with_reducible show WS _ _ (Stmt.Assign [Expr.Name _ _] _ _) _ _ _); walk_at "tS")
  | ((with_reducible show WS _ _ (Stmt.Assign [Expr.Tuple _ _ _] _ _) _ _ _); refine ws_asg ?_))
  | `(tactic| walk_at "c") => `(tactic| first
  | ((with_reducible refine gCK "conflicts_in" ?_); refine we_cl "conflicts_in" ?_))
theorem fn_conflict_inG {f : Addr} {fd : FuncData} (d_conf : FD P w K mg base 3 "conflicts_in" 1 TConfs) (Fn : L2.Fun K "conflict_in" "conflict_in" st_conflict_in f fd) :
    FnOk P w K mg base (L2.CX P w) 4 f fd ["book"] (spG K TConfl) := by
  refine fn_ok Fn sc_conflict_in rfl TConfl_len ?_
  intro cdv A outer s H E N hr ds M Q X' h
  obtain ⟨d, xs, rfl, hl, hb, q⟩ := h
  show WB _ _ _ [some _, none] _ _
  refine wb_cons ?_
  walk_at "g"
  refine ⟨d, xs, rfl, hl, hb, fun p rest => ?_⟩
  refine wb_drop (List.sublist_append_right _ _) ?_
  refine wb_one (ws_ret (WE.few ?_))
  generalize confs xs = cs at *
  walk_at "g"
  refine req_dN (p := .list (pys (confD cs))) (q := .list []) (.cl (ds := confD cs) 0 rfl (okDs_book _)) (.fz rfl) (shaped_book _) rfl ?_
  cases cs with
  | nil =>
    refine ⟨_, rfl, iteQ rfl ?_⟩
    walk_at "g"
    exact ⟨M, List.sublist_cons_self _ _, q⟩
  | cons c cs =>
    refine ⟨_, rfl, iteP rfl ?_⟩
    walk_at "g"
    refine ⟨itemD (ij c), atI_nat (show (confD (c :: cs))[0]? = some (itemD (ij c)) from rfl), ?_⟩
    exact ⟨M, List.sublist_cons_self _ _, q⟩
end
/-! StA -/
set_option exponentiation.threshold 100000

/-- the items of a stretch -/
def stI (s : List Int) : List (Int × Int) := (List.range s.length).map fun i : Nat => ((i : Int), s.getD i 0)
theorem stI_len (s : List Int) : (stI s).length = s.length := by unfold stI; rw [List.length_map, List.length_range]
theorem stI_D (s : List Int) : enumD (s.map D.int) = bookD (stI s) := by
  unfold enumD bookD stI
  rw [List.map_map, List.length_map]
  refine List.map_congr_left fun i hi => ?_
  have := List.mem_range.mp hi
  show D.tup [.int (i : Nat), (s.map D.int).getD i .non] = D.tup [.int (i : Nat), .int (s.getD i 0)]
  rw [List.getD_eq_getElem?_getD, List.getD_eq_getElem?_getD, List.getElem?_map, List.getElem?_eq_getElem this]
  rfl
theorem stI_mem {s : List Int} {x : Int × Int} (h : x ∈ stI s) : ∃ i : Nat, i < s.length ∧ x = ((i : Int), s.getD i 0) := by
  obtain ⟨i, hi, rfl⟩ := List.mem_map.mp h
  exact ⟨i, List.mem_range.mp hi, rfl⟩
theorem stI_of {s : List Int} {i : Nat} (h : i < s.length) : ((i : Int), s.getD i 0) ∈ stI s := List.mem_map.mpr ⟨i, List.mem_range.mpr h, rfl⟩
theorem stI_fit {s : List Int} : confs (stI s) = [] ↔ FitS s := by
  rw [confs_nil]
  constructor
  · intro h i j hi hj
    exact h _ (stI_of hi) _ (stI_of hj)
  · intro h x hx y hy
    obtain ⟨i, hi, rfl⟩ := stI_mem hx
    obtain ⟨j, hj, rfl⟩ := stI_mem hy
    exact h i j hi hj
section
variable {P : Program} {w : World} {K : PySem.W.Frag} {mg : Str → Option Value} {base : Heap}
theorem fn_unfit_init {f : Addr} {fd : FuncData} {C C0 : Addr} {mc : Value} (c : ExcI K mg "Unfit" C f ["first", "second"]) (b : BasI K mg "RestError" C0 mc) (Fn : L2.Fun K "__init__" "Unfit.__init__" st_Unfit___init__ f fd) :
    FnOk P w K mg base (L2.CX P w) 1 f fd ["self", "first", "second"] (spIni2 C "first" "second") := by
  refine Fn.okX sc_Unfit___init__ (fun vs H Q E ⟨a, v1, v2, e, _⟩ => by rw [e]; rfl) fun cdv A outer s H vs Q E hr h => ?_
  obtain ⟨a, v1, v2, rfl, ha, q⟩ := h
  refine ⟨_, pss_cons (ps_expr (pe_base_init rfl b.g b.a b.r b.v (pa_cons (pv 0) (pa_cons pe_str pa_nil)))) (pss_cons (ps_ost (pv 0) (pv 1)) (pss_one (ps_ost (pv 0) (pv 2)))), ?_⟩
  refine ⟨_, rfl, a, C, _, rfl, by simp, c.T, ha, ?_⟩
  refine ⟨_, rfl, _, rfl, a, C, rfl, c.T, c.no _ (by simp), .inl ⟨ha, fun dx hdx hne => ?_⟩⟩
  refine ⟨_, rfl, _, rfl, a, C, rfl, c.T, c.no _ (by simp), .inr ⟨dx, [("first", v1)], upd_same, ?_, by simp, q dx hdx hne⟩⟩
  rw [upd_ne hne, upd_same]
end
def TIsStr : TSp := fun ds M Q _ => ∃ (d : D) (s : List Int) (k : Nat), ds = [d, .int k] ∧ LV M d (s.map D.int) ∧ 1 ≤ s.length ∧ s.length ≤ k ∧ k ≤ 60 ∧ Q (.bl true) M
theorem TIsStr_mono : Mono TIsStr := fun ds M Q Q' E E' h _ ⟨d, s, k, h1, h2, h3, h4, h5, h6⟩ => ⟨d, s, k, h1, h2, h3, h4, h5, h _ _ h6⟩
theorem TIsStr_len : ∀ ds M Q E, TIsStr ds M Q E → ds.length = 2 := fun ds M Q E h => by obtain ⟨_, _, _, rfl, _⟩ := h; rfl
section
variable {P : Program} {w : World} {K : PySem.W.Frag} {mg : Str → Option Value} {base : Heap}
local macro_rules
  | `(tactic| walk_at "ok") => `(tactic| first
  | ((show BlkOk N_is_stretch (defScope st_is_stretch) _ _); exact blkOk_by (by decide +kernel)))
  | `(tactic| walk_at "tG") => `(tactic| first
  | ((with_reducible refine gG "value" ?_); refine wg_nm 2 ?_))
  | `(tactic| walk_at "eWECall") => `(tactic| first
  | ((with_reducible refine gC "isinstance" ?_); refine we_isi rfl (by assumption) ?_)
  | ((with_reducible refine gC "all" ?_); refine we_all rfl rfl (by assumption) ?_)
  | ((with_reducible refine gC "len" ?_); refine we_len rfl (by assumption) ?_)
  | ((with_reducible show WE _ _ (Expr.Call (Expr.Name _ _) _ _ _) _ _ _); walk_at "c"))
  | `(tactic| walk_at "n") => `(tactic| first
  | ((with_reducible refine gN "thing" ?_); refine we_nm 0 rfl rfl ?_)
  | ((with_reducible refine gN "most" ?_); refine we_nm 1 rfl rfl ?_)
  | ((with_reducible refine gN "value" ?_); refine we_nm 2 rfl rfl ?_)
  | ((with_reducible show WE _ _ (Expr.Name "MOST_VALUES_stretches" _) _ _ _); refine we_globI rfl (by assumption) ?_)
  | ((with_reducible show WE _ _ (Expr.Name "list" _) _ _ _); refine we_bltn (v := .ty "list") rfl (by assumption) (by decide +kernel) rfl ?_))
  | `(tactic| walk_at "t") => `(tactic| first
  | ((with_reducible show WG _ _ (Expr.Name _ _) _ _ _ _); walk_at "tG")
  | ((with_reducible show WS _ _ (Stmt.Assign [Expr.Tuple _ _ _] _ _) _ _ _); refine ws_asg ?_))
  | `(tactic| walk_at "c") => `(tactic| first
  | ((with_reducible refine gCK "is_integer" ?_); refine we_cl "is_integer" ?_))
  | `(tactic| walk_at "tg") => `(tactic| first
  | exact Tg.one (i := 2) rfl rfl)
theorem fn_is_stretch {f : Addr} {fd : FuncData} (b_isi : mg "isinstance" = none) (b_len : mg "len" = none) (b_list : mg "list" = none) (b_all : mg "all" = none) (d_int : FD P w K mg base 1 "is_integer" 1 TInt1) (Fn : FunQ K "is_stretch" "is_stretch" st_is_stretch [.int 40] f fd) :
    FnOk P w K mg base (L2.CX P w) 2 f fd ["thing", "most"] (spG K TIsStr) := by
  refine fn_okQ Fn sc_is_stretch rfl TIsStr_len ?_
  intro cdv A outer s H E N hr ds M Q X' h
  obtain ⟨d, sv, k, rfl, hl, h1, h2, h3, q⟩ := h
  show WB _ _ _ [some _, some (.int k), none] _ _
  refine wb_cons ?_
  walk_at "g"
  refine isi1 hl.ty (by decide) (b := true) (by decide) ?_
  walk_at "g"
  refine Sq.len (.inl ⟨rfl, hl⟩) ?_
  walk_at "g"
  rw [List.length_map]
  refine iteP (decide_eq_true (by omega)) ?_
  walk_at "g"
  refine iteP (decide_eq_true (by omega)) ?_
  walk_at "g"
  refine we_froz 0 (we_lcM (fun _ => .bl true) N (by walk_at "tg") (by walk_at "ok") (wi_list ?_))
  walk_at "g"
  refine ⟨_, hl, ?_, fun _ _ => hl.cons, ?_, ?_⟩
  · rw [List.length_map, sizeLine_eq]; omega
  · intro j d' acc p hd
    obtain ⟨y, hy, rfl⟩ := List.mem_map.mp (List.mem_of_getElem? hd)
    refine ⟨_, rfl, fun B => ?_⟩
    walk_at "g"
    exact ⟨y, rfl, rfl, rfl⟩
  · intro p
    refine ⟨p, _, rfl, rfl, ?_⟩
    walk_at "g"
    refine ⟨_, List.replicate sv.length true, rfl, ?_, ?_⟩
    · rw [show (List.replicate sv.length true).map D.bl = (sv.map D.int).map fun _ => D.bl true by rw [List.map_map, List.map_replicate]; exact (List.map_const' ..).symm]
      exact .l
    · rw [show (List.replicate sv.length true).all id = true by simp]
      walk_at "g"
      exact q
end
section
variable {P : Program} {w : World} {K : PySem.W.Frag} {mg : Str → Option Value} {base : Heap}
local macro_rules
  | `(tactic| walk_at "ok") => `(tactic| first
  | ((show BlkOk N_need_stretch (defScope st_need_stretch) _ _); exact blkOk_by (by decide +kernel)))
  | `(tactic| walk_at "eWECall") => `(tactic| first
  | ((with_reducible show WE _ _ (Expr.Call (Expr.Name _ _) _ _ _) _ _ _); walk_at "c"))
  | `(tactic| walk_at "n") => `(tactic| first
  | ((with_reducible refine gN "stretch" ?_); refine we_nm 0 rfl rfl ?_)
  | ((with_reducible refine gN "most" ?_); refine we_nm 1 rfl rfl ?_)
  | ((with_reducible show WE _ _ (Expr.Name "MOST_VALUES_stretches" _) _ _ _); refine we_globI rfl (by assumption) ?_))
  | `(tactic| walk_at "t") => `(tactic| first
  | ((with_reducible show WS _ _ (Stmt.Assign [Expr.Tuple _ _ _] _ _) _ _ _); refine ws_asg ?_))
  | `(tactic| walk_at "c") => `(tactic| first
  | ((with_reducible show WE _ _ (Expr.Call (Expr.Name "is_stretch" _) [_, _] [] _) _ _ _); refine we_call (x := "is_stretch") (by assumption) (by walk_at "r") rfl ?_))
theorem fn_need_stretch {f : Addr} {fd : FuncData} (d_is : FD P w K mg base 2 "is_stretch" 2 TIsStr) (Fn : FunQ K "need_stretch" "need_stretch" st_need_stretch [.int 40] f fd) :
    FnOk P w K mg base (L2.CX P w) 3 f fd ["stretch", "most"] (spG K fun ds M Q E => TIsStr ds M (fun _ M' => Q .non M') E) := by
  refine fn_okQ Fn sc_need_stretch rfl (fun ds M Q E h => TIsStr_len ds M _ E h) ?_
  intro cdv A outer s H E N hr ds M Q X' h
  obtain ⟨d, sv, k, rfl, hl, h1, h2, h3, q⟩ := h
  show WB _ _ _ [some _, some (.int k)] _ _
  refine wb_one ?_
  walk_at "g"
  refine ⟨_, sv, k, rfl, hl, h1, h2, h3, ?_⟩
  walk_at "g"
  exact q
end
def TItems : TSp := fun ds M Q _ => ∃ (d : D) (s : List Int), ds = [d] ∧ LV M d (s.map D.int) ∧ Q (.lst (bookD (stI s))) M
theorem TItems_mono : Mono TItems := fun ds M Q Q' E E' h _ ⟨d, s, h1, h2, h3⟩ => ⟨d, s, h1, h2, h _ _ h3⟩
theorem TItems_len : ∀ ds M Q E, TItems ds M Q E → ds.length = 1 := fun ds M Q E h => by obtain ⟨_, _, rfl, _⟩ := h; rfl
section
variable {P : Program} {w : World} {K : PySem.W.Frag} {mg : Str → Option Value} {base : Heap}
local macro_rules
  | `(tactic| walk_at "ok") => `(tactic| first
  | ((show BlkOk N_items_in (defScope st_items_in) _ _); exact blkOk_by (by decide +kernel)))
  | `(tactic| walk_at "eWECall") => `(tactic| first
  | ((with_reducible refine gC "list" ?_); refine we_list rfl (by assumption) ?_))
  | `(tactic| walk_at "n") => `(tactic| first
  | ((with_reducible refine gN "stretch" ?_); refine we_nm 0 rfl rfl ?_)
  | ((with_reducible show WE _ _ (Expr.Name "list" _) _ _ _); refine we_bltn (v := .ty "list") rfl (by assumption) (by decide +kernel) rfl ?_))
  | `(tactic| walk_at "t") => `(tactic| first
  | ((with_reducible show WS _ _ (Stmt.Assign [Expr.Tuple _ _ _] _ _) _ _ _); refine ws_asg ?_))
theorem fn_items_in {f : Addr} {fd : FuncData} (b_enum : mg "enumerate" = none) (b_list : mg "list" = none) (Fn : L2.Fun K "items_in" "items_in" st_items_in f fd) :
    FnOk P w K mg base (L2.CX P w) 1 f fd ["stretch"] (spG K TItems) := by
  refine fn_ok Fn sc_items_in rfl TItems_len ?_
  intro cdv A outer s H E N hr ds M Q X' h
  obtain ⟨d, sv, rfl, hl, q⟩ := h
  show WB _ _ _ [some _] _ _
  refine wb_one (ws_ret (we_froz 0 (we_listEnum N.calm rfl (by assumption) rfl (by assumption) ?_)))
  walk_at "g"
  refine ⟨_, _, rfl, hl, fun p => ⟨p, _, rfl, rfl, ?_⟩⟩
  rw [stI_D]
  exact q
end
/-- Unfit of the least pair of a stretch, unless all fit -/
def TRight (C : Addr) : TSp := fun ds M Q E => ∃ (d : D) (s : List Int), ds = [d] ∧ LV M d (s.map D.int) ∧ s.length ≤ 60 ∧ (confs (stI s) = [] → Q .non M) ∧ ∀ i j r, confs (stI s) = (i, j) :: r → E ⟨C, fsD [("second", (j : Int)), ("first", (i : Int))]⟩ M
theorem TRight_mono (C : Addr) : Mono (TRight C) := fun ds M Q Q' E E' h g ⟨a, b, h1, h2, h3, h4, h5⟩ => ⟨a, b, h1, h2, h3, fun z => h _ _ (h4 z), fun i j r z => g _ _ (h5 i j r z)⟩
theorem TRight_len (C : Addr) : ∀ ds M Q E, TRight C ds M Q E → ds.length = 1 := fun ds M Q E h => by obtain ⟨_, _, rfl, _⟩ := h; rfl
section
variable {P : Program} {w : World} {K : PySem.W.Frag} {mg : Str → Option Value} {base : Heap}
local macro_rules
  | `(tactic| walk_at "ok") => `(tactic| first
  | ((show BlkOk N_need_right (defScope st_need_right) _ _); exact blkOk_by (by decide +kernel)))
  | `(tactic| walk_at "tS") => `(tactic| first
  | ((with_reducible refine gS "conflict" ?_); refine ws_st 1 ?_))
  | `(tactic| walk_at "eWECall") => `(tactic| first
  | ((with_reducible show WE _ _ (Expr.Call (Expr.Name _ _) _ _ _) _ _ _); walk_at "c"))
  | `(tactic| walk_at "n") => `(tactic| first
  | ((with_reducible refine gN "conflict" ?_); refine we_nm 1 rfl rfl ?_)
  | ((with_reducible refine gN "stretch" ?_); refine we_nm 0 rfl rfl ?_))
  | `(tactic| walk_at "t") => `(tactic| first
  | ((with_reducible show WS _ _ (Stmt.Assign [Expr.Name _ _] _ _) _ _ _); walk_at "tS")
  | ((with_reducible show WS _ _ (Stmt.Assign [Expr.Tuple _ _ _] _ _) _ _ _); refine ws_asg ?_))
  | `(tactic| walk_at "c") => `(tactic| first
  | ((with_reducible refine gCK "conflict_in" ?_); refine we_cl "conflict_in" ?_)
  | ((with_reducible refine gCK "items_in" ?_); refine we_cl "items_in" ?_))
theorem fn_need_right {f fI : Addr} {fd fdI : FuncData} {C : Addr} (c : ExcI K mg "Unfit" C fI ["first", "second"]) (Fi : FnOk P w K mg base (L2.CX P w) 1 fI fdI ["self", "first", "second"] (spIni2 C "first" "second")) (hb : Binds K fdI ["self", "first", "second"] []) (d_conf : FD P w K mg base 4 "conflict_in" 1 TConfl) (d_items : FD P w K mg base 1 "items_in" 1 TItems) (Fn : L2.Fun K "need_right" "need_right" st_need_right f fd) :
    FnOk P w K mg base (L2.CX P w) 5 f fd ["stretch"] (spG K (TRight C)) := by
  refine fn_ok Fn sc_need_right rfl (TRight_len C) ?_
  intro cdv A outer s H E N hr ds M Q X' h
  obtain ⟨d, sv, rfl, hl, hlen, q1, q2⟩ := h
  show WB _ _ _ [some _, none] _ _
  refine wb_cons ?_
  walk_at "g"
  refine ⟨d, sv, rfl, hl, ?_⟩
  walk_at "g"
  refine ⟨_, stI sv, rfl, .l, by rw [stI_len]; exact hlen, ?_⟩
  generalize confs (stI sv) = cs at *
  cases cs with
  | nil =>
    show WB _ _ _ [some _, some D.non] _ _
    walk_at "g"
    exact q1 rfl
  | cons p cs =>
    obtain ⟨i, j⟩ := p
    show WB _ _ _ [some _, some (.tup [.int (i : Nat), .int (j : Nat)])] _ _
    walk_at "g"
    refine ws_raise N ?_
    refine wm_ini2 c Fi hb (room_le hr (by decide)) rfl ?_
    walk_at "g"
    exact ⟨_, _, rfl, q2 i j cs rfl⟩
end
theorem difN_iter : ∀ (n : Nat) (f : Int → Int), difN n (dif f) = dif (difN n f)
  | 0, _ => rfl
  | n + 1, f => difN_iter n (dif f)
def row (n i : Nat) (f : Int → Int) : List Int := (List.range (n - i)).map fun j => difN i f (j : Nat)
theorem row_ne {n i : Nat} {f : Int → Int} : row n i f = [] ↔ n ≤ i := by
  unfold row
  rw [List.map_eq_nil_iff, List.range_eq_nil]
  omega
def fSub : D → D
  | .tup [.int a, .int b] => .int (b - a)
  | _ => .non
theorem row_step (n i : Nat) (f : Int → Int) : (zipD ((row n i f).map D.int) (((row n i f).map D.int).drop 1)).map fSub = (row n (i + 1) f).map D.int := by
  refine List.ext_getElem ?_ fun j h1 h2 => ?_
  · simp [zipD_len, row]; omega
  · have hj : j < n - (i + 1) := by simpa [row] using h2
    simp [zipD, row, fSub]
    show difN i f ((j : Int) + 1) - difN i f j = difN i (dif f) j
    rw [difN_iter]
    rfl

/-! AlA -/
set_option exponentiation.threshold 100000
def TForm (Q0 : D) : TSp := fun ds M Q _ => ∃ (d : D) (r : List Int), ds = [d] ∧ LV M d (r.map D.int) ∧ r ≠ [] ∧ r.length ≤ 41 ∧ Q Q0 M
theorem TForm_mono (Q0 : D) : Mono (TForm Q0) := fun ds M Q Q' E E' h _ ⟨d, r, h1, h2, h3, h4, h5⟩ => ⟨d, r, h1, h2, h3, h4, h _ _ h5⟩
theorem TForm_len (Q0 : D) : ∀ ds M Q E, TForm Q0 ds M Q E → ds.length = 1 := fun ds M Q E h => by obtain ⟨_, _, rfl, _⟩ := h; rfl
section
variable {P : Program} {w : World} {K : PySem.W.Frag} {mg : Str → Option Value} {base : Heap}
local macro_rules
  | `(tactic| walk_at "ok") => `(tactic| first
  | ((show BlkOk N_is_formula (defScope st_is_formula) _ _); exact blkOk_by (by decide +kernel)))
  | `(tactic| walk_at "tG") => `(tactic| first
  | ((with_reducible refine gG "item" ?_); refine wg_nm 1 ?_))
  | `(tactic| walk_at "eWECall") => `(tactic| first
  | ((with_reducible refine gC "isinstance" ?_); refine we_isi rfl (by assumption) ?_)
  | ((with_reducible refine gC "all" ?_); refine we_all rfl rfl (by assumption) ?_)
  | ((with_reducible refine gC "len" ?_); refine we_len rfl (by assumption) ?_)
  | ((with_reducible show WE _ _ (Expr.Call (Expr.Name _ _) _ _ _) _ _ _); walk_at "c"))
  | `(tactic| walk_at "n") => `(tactic| first
  | ((with_reducible refine gN "thing" ?_); refine we_nm 0 rfl rfl ?_)
  | ((with_reducible refine gN "item" ?_); refine we_nm 1 rfl rfl ?_)
  | ((with_reducible show WE _ _ (Expr.Name "MOST_ITEMS_formulas" _) _ _ _); refine we_globI rfl (by assumption) ?_)
  | ((with_reducible show WE _ _ (Expr.Name "list" _) _ _ _); refine we_bltn (v := .ty "list") rfl (by assumption) (by decide +kernel) rfl ?_))
  | `(tactic| walk_at "t") => `(tactic| first
  | ((with_reducible show WG _ _ (Expr.Name _ _) _ _ _ _); walk_at "tG")
  | ((with_reducible show WS _ _ (Stmt.Assign [Expr.Tuple _ _ _] _ _) _ _ _); refine ws_asg ?_))
  | `(tactic| walk_at "c") => `(tactic| first
  | ((with_reducible refine gCK "is_integer" ?_); refine we_cl "is_integer" ?_))
  | `(tactic| walk_at "tg") => `(tactic| first
  | exact Tg.one (i := 1) rfl rfl)
theorem fn_is_formula {f : Addr} {fd : FuncData} (b_isi : mg "isinstance" = none) (b_len : mg "len" = none) (b_list : mg "list" = none) (b_all : mg "all" = none) (c1 : ∃ t, mg "MOST_ITEMS_formulas" = some (.int 41 t)) (d_int : FD P w K mg base 1 "is_integer" 1 TInt1) (Fn : L2.Fun K "is_formula" "is_formula" st_is_formula f fd) :
    FnOk P w K mg base (L2.CX P w) 2 f fd ["thing"] (spG K (TForm (.bl true))) := by
  refine fn_ok Fn sc_is_formula rfl (TForm_len _) ?_
  intro cdv A outer s H E N hr ds M Q X' h
  obtain ⟨d, r, rfl, hl, h0, h41, q⟩ := h
  have hpos : 0 < r.length := List.length_pos_iff.mpr h0
  show WB _ _ _ [some _, none] _ _
  refine wb_one (ws_ret ?_)
  walk_at "g"
  refine isi1 hl.ty (by decide) (b := true) (by decide) ?_
  walk_at "g"
  refine Sq.len (.inl ⟨rfl, hl⟩) ?_
  rw [List.length_map]
  refine ⟨_, _, rfl, rfl, ?_⟩
  refine iteP (decide_eq_true (by omega)) ?_
  walk_at "g"
  rw [decide_eq_true (show (r.length : Int) ≤ 41 by omega)]
  walk_at "g"
  refine we_froz 0 (we_lcM (fun _ => .bl true) N (by walk_at "tg") (by walk_at "ok") (wi_list ?_))
  walk_at "g"
  refine ⟨_, hl, ?_, fun _ _ => hl.cons, ?_, ?_⟩
  · rw [List.length_map, sizeLine_eq]; omega
  · intro j d' acc p hd
    obtain ⟨y, hy, rfl⟩ := List.mem_map.mp (List.mem_of_getElem? hd)
    refine ⟨_, rfl, fun B => ?_⟩
    walk_at "g"
    exact ⟨y, rfl, rfl, rfl⟩
  · intro p
    refine ⟨p, _, rfl, rfl, ?_⟩
    walk_at "g"
    obtain ⟨bs, e1, e2⟩ := all_true (r.map D.int)
    refine ⟨_, bs, rfl, by rw [e1]; exact .l, ?_⟩
    rw [e2]
    exact q
end
section
variable {P : Program} {w : World} {K : PySem.W.Frag} {mg : Str → Option Value} {base : Heap}
local macro_rules
  | `(tactic| walk_at "ok") => `(tactic| first
  | ((show BlkOk N_need_formula (defScope st_need_formula) _ _); exact blkOk_by (by decide +kernel)))
  | `(tactic| walk_at "eWECall") => `(tactic| first
  | ((with_reducible show WE _ _ (Expr.Call (Expr.Name _ _) _ _ _) _ _ _); walk_at "c"))
  | `(tactic| walk_at "n") => `(tactic| first
  | ((with_reducible refine gN "formula" ?_); refine we_nm 0 rfl rfl ?_))
  | `(tactic| walk_at "t") => `(tactic| first
  | ((with_reducible show WS _ _ (Stmt.Assign [Expr.Tuple _ _ _] _ _) _ _ _); refine ws_asg ?_))
  | `(tactic| walk_at "c") => `(tactic| first
  | ((with_reducible refine gCK "is_formula" ?_); refine we_cl "is_formula" ?_))
theorem fn_need_formula {f : Addr} {fd : FuncData} (d_form : FD P w K mg base 2 "is_formula" 1 (TForm (.bl true))) (Fn : L2.Fun K "need_formula" "need_formula" st_need_formula f fd) :
    FnOk P w K mg base (L2.CX P w) 3 f fd ["formula"] (spG K (TForm .non)) := by
  refine fn_ok Fn sc_need_formula rfl (TForm_len _) ?_
  intro cdv A outer s H E N hr ds M Q X' h
  obtain ⟨d, r, rfl, hl, h0, h41, q⟩ := h
  show WB _ _ _ [some _] _ _
  refine wb_one ?_
  walk_at "g"
  refine ⟨_, r, rfl, hl, h0, h41, ?_⟩
  walk_at "g"
  exact q
end
/-- the least common multiple, number by number -/
def mstep (f n : Int) : Int := f / Int.gcd f n * n
def mfold (ns : List Int) : Int := ns.foldl mstep 1
theorem mstep_eq (f n : Int) : mstep f n = f * n / Int.gcd f n := by
  unfold mstep
  rw [Int.mul_comm f n, Int.mul_ediv_assoc n (Int.gcd_dvd_left f n), Int.mul_comm]
theorem mstep_pos {f n : Int} (hf : 0 < f) (hn : 0 < n) : 0 < mstep f n := by rw [mstep_eq]; exact (lcm_eq hn hf).2.2.1
theorem mstep_le {f n : Int} (hf : 0 < f) (hn : 0 < n) : mstep f n ≤ f * n := by rw [mstep_eq]; exact (lcm_eq hn hf).2.2.2
theorem mstep_one {n : Int} (hn : 0 < n) : mstep 1 n = n := by
  rw [mstep_eq]
  have : Int.gcd 1 n = 1 := by simp
  rw [this, Int.one_mul]
  simp
theorem mfold_two {a b : Int} (ha : 0 < a) : mfold [a, b] = a * b / Int.gcd a b := by
  show mstep (mstep 1 a) b = _
  rw [mstep_one ha, mstep_eq]
theorem mfold_range : ∀ k : Nat, mfold ((List.range k).map fun i => 1 + (i : Nat)) = lc k
  | 0 => rfl
  | k + 1 => by
    unfold mfold
    rw [List.range_succ, List.map_append, List.foldl_append]
    show mstep (mfold ((List.range k).map fun i => 1 + (i : Nat))) (1 + (k : Int)) = lc (k + 1)
    rw [mfold_range k, mstep_eq, show (1 : Int) + k = (k : Int) + 1 by omega]
    rfl
def TMult : TSp := fun ds M Q _ => ∃ (d : D) (ns : List Int), ds = [d] ∧ LV M d (ns.map D.int) ∧ ns.length ≤ 64 ∧ (∀ n ∈ ns, 0 < n ∧ n ≤ 2 ^ 400) ∧ Q (.int (mfold ns)) M
theorem TMult_mono : Mono TMult := fun ds M Q Q' E E' h _ ⟨a, b, h1, h2, h3, h4, h5⟩ => ⟨a, b, h1, h2, h3, h4, h _ _ h5⟩
theorem TMult_len : ∀ ds M Q E, TMult ds M Q E → ds.length = 1 := fun ds M Q E h => by obtain ⟨_, _, rfl, _⟩ := h; rfl
theorem two_pow {n : Nat} : ((2 ^ n : Nat) : Int) = (2 : Int) ^ n := by norm_cast
theorem abs_le_two {i : Int} {n : Nat} (h0 : 0 ≤ i) (h : i ≤ 2 ^ n) : i.natAbs ≤ 2 ^ n := by
  have := two_pow (n := n)
  omega
theorem mfold_take {ns : List Int} (h : ∀ n ∈ ns, 0 < n ∧ n ≤ 2 ^ 400) : ∀ j, j ≤ ns.length → 0 < mfold (ns.take j) ∧ mfold (ns.take j) ≤ 2 ^ (400 * j)
  | 0, _ => by
    show 0 < (1 : Int) ∧ (1 : Int) ≤ 2 ^ (400 * 0)
    decide
  | j + 1, hj => by
    have ih := mfold_take h j (by omega)
    have hn := h _ (List.getElem_mem (h := show j < ns.length by omega))
    have e : ns.take (j + 1) = ns.take j ++ [ns[j]] := by rw [List.take_add_one, List.getElem?_eq_getElem (by omega)]; rfl
    have e2 : mfold (ns.take (j + 1)) = mstep (mfold (ns.take j)) ns[j] := by
      unfold mfold
      rw [e, List.foldl_append]; rfl
    rw [e2]
    refine ⟨mstep_pos ih.1 hn.1, Int.le_trans (mstep_le ih.1 hn.1) ?_⟩
    rw [show 400 * (j + 1) = 400 * j + 400 by omega, Int.pow_add]
    exact Int.mul_le_mul ih.2 hn.2 (by omega) (by have := two_pow (n := 400 * j); omega)
section
variable {P : Program} {w : World} {K : PySem.W.Frag} {mg : Str → Option Value} {base : Heap}
local macro_rules
  | `(tactic| walk_at "ok") => `(tactic| first
  | ((show BlkOk N_multiple_of (defScope st_multiple_of) _ _); exact blkOk_by (by decide +kernel)))
  | `(tactic| walk_at "tS") => `(tactic| first
  | ((with_reducible refine gS "found" ?_); refine ws_st 1 ?_))
  | `(tactic| walk_at "tG") => `(tactic| first
  | ((with_reducible refine gG "number" ?_); refine wg_nm 2 ?_))
  | `(tactic| walk_at "eWECall") => `(tactic| first
  | ((with_reducible refine gC "abs" ?_); refine we_abs rfl (by assumption) ?_)
  | ((with_reducible show WE _ _ (Expr.Call (Expr.Name _ _) _ _ _) _ _ _); walk_at "c"))
  | `(tactic| walk_at "n") => `(tactic| first
  | ((with_reducible refine gN "found" ?_); refine we_nm 1 rfl rfl ?_)
  | ((with_reducible refine gN "number" ?_); refine we_nm 2 rfl rfl ?_)
  | ((with_reducible refine gN "numbers" ?_); refine we_nm 0 rfl rfl ?_))
  | `(tactic| walk_at "t") => `(tactic| first
  | ((with_reducible show WS _ _ (Stmt.Assign [Expr.Name _ _] _ _) _ _ _); walk_at "tS")
  | ((with_reducible show WG _ _ (Expr.Name _ _) _ _ _ _); walk_at "tG")
  | ((with_reducible show WS _ _ (Stmt.Assign [Expr.Tuple _ _ _] _ _) _ _ _); refine ws_asg ?_))
  | `(tactic| walk_at "c") => `(tactic| first
  | ((with_reducible refine gCK "divisor_of" ?_); refine we_cl "divisor_of" ?_))
theorem fn_multiple_of {f : Addr} {fd : FuncData} (b_abs : mg "abs" = none) (d_gcd : FD P w K mg base 1 "divisor_of" 2 TGcd0) (Fn : L2.Fun K "multiple_of" "multiple_of" st_multiple_of f fd) :
    FnOk P w K mg base (L2.CX P w) 2 f fd ["numbers"] (spG K TMult) := by
  refine fn_ok Fn sc_multiple_of rfl TMult_len ?_
  intro cdv A outer s H E N hr ds M Q X' h
  obtain ⟨d, ns, rfl, hl, h64, hn, q⟩ := h
  show WB _ _ _ [some _, none, none] _ _
  refine wb_cons ?_
  walk_at "g"
  refine ws_for N (wi_list ?_)
  walk_at "g"
  refine ⟨_, hl, fun j δ' M' => ∃ x2 : Option D, δ' = [some d, some (.int (mfold (ns.take j))), x2] ∧ M' = M, ?_, ?_, ?_, ?_⟩
  · exact ⟨none, rfl, rfl⟩
  · rintro j δ' M' _ ⟨x2, rfl, rfl⟩
    exact hl
  · rintro j d' δ' M' hd ⟨x2, rfl, rfl⟩
    obtain ⟨n, hnj, rfl⟩ : ∃ n, ns[j]? = some n ∧ d' = .int n := by
      rw [List.getElem?_map] at hd
      cases e : ns[j]? with
      | none => rw [e] at hd; cases hd
      | some y => rw [e] at hd; exact ⟨y, rfl, (Option.some.inj hd).symm⟩
    have hb := hn n (List.mem_of_getElem? hnj)
    have hj := (List.getElem?_eq_some_iff.mp hnj).1
    have hf := mfold_take hn j (by omega)
    have e2 : mfold (ns.take (j + 1)) = mstep (mfold (ns.take j)) n := by
      unfold mfold
      rw [List.take_add_one, hnj, List.foldl_append]; rfl
    have hg0 := gcd_pos' (a := mfold (ns.take j)) hb.1
    have hg1 : ((Int.gcd (mfold (ns.take j)) n : Nat) : Int) ≤ n := Int.le_of_dvd hb.1 (Int.gcd_dvd_right _ _)
    have hg2 : ((Int.gcd (mfold (ns.take j)) n : Nat) : Int).natAbs ≤ 2 ^ 400 := abs_le_two (by omega) (by omega)
    walk_at "g"
    refine iteQ (decide_eq_false (by omega)) ?_
    walk_at "g"
    rw [if_neg (by omega : ¬ n < 0)]
    refine ⟨_, _, rfl, by omega, by omega, ?_⟩
    walk_at "g"
    all_goals (try rw [if_neg (by omega : ¬ n < 0)])
    all_goals first
      | exact ⟨some (.int n), by rw [e2]; rfl, rfl⟩
      | exact IntMulOk.of_bits (bits_of (n := 400 * 64) (Nat.le_trans (natAbs_ediv_le _ hg0 (Int.gcd_dvd_left _ _)) (Nat.le_trans (abs_le_two (by omega) hf.2) (Nat.pow_le_pow_right (by decide) (by omega)))) (by decide)) (bits_of (n := 400) (abs_le_two (by omega) hb.2) (by decide))
      | exact ⟨hg0, by have := log2_lt (i := ((Int.gcd (mfold (ns.take j)) n : Nat) : Int)) (n := 401) (Nat.lt_of_le_of_lt hg2 (Nat.pow_lt_pow_right (by decide) (by decide))) (by decide); omega⟩
  · rintro δ' M' ⟨x2, rfl, rfl⟩
    rw [List.length_map, List.take_length]
    walk_at "g"
    exact q
end
/-! AlB -/
set_option exponentiation.threshold 100000
def TLc : TSp := fun ds M Q _ => ∃ k : Nat, ds = [.int k] ∧ k ≤ 60 ∧ Q (.int (lc k)) M
theorem TLc_mono : Mono TLc := fun ds M Q Q' E E' h _ ⟨i, h1, h3, h2⟩ => ⟨i, h1, h3, h _ _ h2⟩
theorem TLc_len : ∀ ds M Q E, TLc ds M Q E → ds.length = 1 := fun ds M Q E h => by obtain ⟨_, rfl, _⟩ := h; rfl
theorem rangeD_ints (k : Nat) : rangeD 1 k = ((List.range k).map fun i => (1 : Int) + (i : Nat)).map D.int := by
  unfold rangeD
  rw [List.map_map]
  rfl
theorem le_400 {n : Int} (h : n ≤ 10 ^ 30) : n ≤ 2 ^ 400 := by omega
section
variable {P : Program} {w : World} {K : PySem.W.Frag} {mg : Str → Option Value} {base : Heap}
local macro_rules
  | `(tactic| walk_at "ok") => `(tactic| first
  | ((show BlkOk N_multiple_to (defScope st_multiple_to) _ _); exact blkOk_by (by decide +kernel)))
  | `(tactic| walk_at "eWECall") => `(tactic| first
  | ((with_reducible show WE _ _ (Expr.Call (Expr.Name _ _) _ _ _) _ _ _); walk_at "c")
  | ((with_reducible refine gC "list" ?_); refine we_list rfl (by assumption) ?_))
  | `(tactic| walk_at "n") => `(tactic| first
  | ((with_reducible refine gN "number" ?_); refine we_nm 0 rfl rfl ?_)
  | ((with_reducible show WE _ _ (Expr.Name "list" _) _ _ _); refine we_bltn (v := .ty "list") rfl (by assumption) (by decide +kernel) rfl ?_))
  | `(tactic| walk_at "t") => `(tactic| first
  | ((with_reducible show WS _ _ (Stmt.Assign [Expr.Tuple _ _ _] _ _) _ _ _); refine ws_asg ?_))
  | `(tactic| walk_at "c") => `(tactic| first
  | ((with_reducible refine gCK "multiple_of" ?_); refine we_cl "multiple_of" ?_))
theorem fn_multiple_to {f : Addr} {fd : FuncData} (b_list : mg "list" = none) (b_range : mg "range" = none) (d_mult : FD P w K mg base 2 "multiple_of" 1 TMult) (Fn : L2.Fun K "multiple_to" "multiple_to" st_multiple_to f fd) :
    FnOk P w K mg base (L2.CX P w) 3 f fd ["number"] (spG K TLc) := by
  refine fn_ok Fn sc_multiple_to rfl TLc_len ?_
  intro cdv A outer s H E N hr ds M Q X' h
  obtain ⟨k, rfl, hk, q⟩ := h
  show WB _ _ _ [some _] _ _
  refine wb_one (ws_ret ?_)
  walk_at "c"
  refine wa_cons (we_listRg N.calm rfl (by assumption) rfl (by assumption) ?_)
  walk_at "g"
  rotate_left 1
  · exact RgOk.of_le (by omega) (by omega) (by omega) (by omega)
  refine ⟨_, (List.range k).map fun i => (1 : Int) + (i : Nat), rfl, ?_, by rw [List.length_map, List.length_range]; omega, ?_, ?_⟩
  · rw [show ((k : Int) + 1 - 1).toNat = k by omega, rangeD_ints]; exact .l
  · intro n hn
    obtain ⟨i, hi, rfl⟩ := List.mem_map.mp hn
    have := List.mem_range.mp hi
    exact ⟨by omega, le_400 (by omega)⟩
  · rw [mfold_range]
    exact q
end
def Cl (Q : D → Cells → Prop) : Prop := ∀ (p : Addr) (ds : List D) (M : Cells), Q (.lst ds) M → Q (.cel p) ((p, .lst ds) :: M)
theorem fn_toF {P : Program} {w : World} {K : PySem.W.Frag} {mg : Str → Option Value} {base : Heap} {k : Nat} {f : Addr} {fd : FuncData} {ps : List Str} {T T' : TSp} (h : ∀ ds M Q E, Cl Q → T' ds M Q E → T ds M Q E) (Fo : FnOk P w K mg base (L2.CX P w) k f fd ps (spG K T)) :
    FnOk P w K mg base (L2.CX P w) k f fd ps (spG K T') := Fo.imp fun vs H Q E ⟨F, M, ds, S, r, t⟩ => ⟨F, M, ds, S, r, h _ _ _ _ (fun p es M' q v F' H' s' S' r' => by
  cases r'
  obtain ⟨F2, s2, S2, r2⟩ := S'.freeze (k := 0) rfl
  exact q _ F2 H' (s'.trans s2) S2 r2) t⟩
theorem cutD_0 (ds : List D) (n : Nat) : cutD ds none (some (n : Int)) = ds.take n := by
  unfold cutD
  have e : HT.sIx ds.length ds.length (some (n : Int)) = min n ds.length := by
    show (if (n : Int) < 0 then ((n : Int) + (ds.length : Int)).toNat else min (n : Int).toNat ds.length) = _
    rw [if_neg (by omega)]; rfl
  have e0 : HT.sIx ds.length 0 none = 0 := rfl
  rw [e, e0, Nat.sub_zero, List.drop_zero]
  rcases Nat.le_total n ds.length with h | h
  · rw [Nat.min_eq_left h]
  · rw [Nat.min_eq_right h, List.take_length, List.take_of_length_le h]
def TPlainC : TSp := fun ds M Q _ => ∃ (d : D) (r : List Int), ds = [d] ∧ LV M d (r.map D.int) ∧ r ≠ [] ∧ r.length ≤ 100 ∧ ∀ s : List Int, IsPlain s → (∀ x, valF s x = valF r x) → s.length ≤ r.length → (∀ c ∈ s, c ∈ r) → ∀ p, Q (.cel p) ((p, .lst (s.map D.int)) :: M)
theorem TPlainC_mono : Mono TPlainC := fun ds M Q Q' E E' h _ ⟨d, r, h1, h2, h3, h4, h5⟩ => ⟨d, r, h1, h2, h3, h4, fun s a b c e p => h _ _ (h5 s a b c e p)⟩
theorem TPlainC_len : ∀ ds M Q E, TPlainC ds M Q E → ds.length = 1 := fun ds M Q E h => by obtain ⟨_, _, rfl, _⟩ := h; rfl
section
variable {P : Program} {w : World} {K : PySem.W.Frag} {mg : Str → Option Value} {base : Heap}
local macro_rules
  | `(tactic| walk_at "e") => `(tactic| first | ((with_reducible show WE _ _ (Expr.Subscript _ (Expr.Slice _ _ _ _) _) _ _ _); refine we_sliceC ?_))
  | `(tactic| walk_at "ok") => `(tactic| first
  | ((show BlkOk N_plain_of (defScope st_plain_of) _ _); exact blkOk_by (by decide +kernel)))
  | `(tactic| walk_at "tS") => `(tactic| first
  | ((with_reducible refine gS "size" ?_); refine ws_st 1 ?_))
  | `(tactic| walk_at "eWECall") => `(tactic| first
  | ((with_reducible refine gC "len" ?_); refine we_len rfl (by assumption) ?_))
  | `(tactic| walk_at "n") => `(tactic| first
  | ((with_reducible refine gN "formula" ?_); refine we_nm 0 rfl rfl ?_)
  | ((with_reducible refine gN "size" ?_); refine we_nm 1 rfl rfl ?_))
  | `(tactic| walk_at "t") => `(tactic| first
  | ((with_reducible show WS _ _ (Stmt.Assign [Expr.Name _ _] _ _) _ _ _); walk_at "tS")
  | ((with_reducible show WS _ _ (Stmt.AugAssign (Expr.Name "size" _) Operator.Sub _ _) _ _ _); refine ws_augI (i := 1) (by assumption) rfl (by first | exact .inl rfl | exact .inr rfl) iop_subQ rfl ?_)
  | ((with_reducible show WS _ _ (Stmt.Assign [Expr.Tuple _ _ _] _ _) _ _ _); refine ws_asg ?_))
theorem fn_plain_ofC {f : Addr} {fd : FuncData} (b_len : mg "len" = none) (Fn : L2.Fun K "plain_of" "plain_of" st_plain_of f fd) :
    FnOk P w K mg base (L2.CX P w) 1 f fd ["formula"] (spG K TPlainC) := by
  refine fn_ok Fn sc_plain_of rfl TPlainC_len ?_
  intro cdv A outer s H E N hr ds M Q X' h
  obtain ⟨d, r, rfl, hl, h0, h100, q⟩ := h
  have hpos : 0 < r.length := List.length_pos_iff.mpr h0
  show WB _ _ _ [some _, none] _ _
  refine wb_cons ?_
  walk_at "g"
  refine Sq.len (.inl ⟨rfl, hl⟩) ?_
  rw [List.length_map]
  refine wb_cons ?_
  refine ws_while N (fun m δ' M' => δ' = [some d, some (.int (m : Nat))] ∧ M' = M ∧ 1 ≤ m ∧ m ≤ r.length ∧ ∀ j, m ≤ j → r.getD j 0 = 0) ⟨r.length, rfl, rfl, hpos, Nat.le_refl _, fun j hj => getD_out hj⟩ ?_
  rintro m δ' M' ⟨rfl, rfl, hm1, hm2, hz⟩
  have fin : IsPlain (r.take m) → ∀ p, Q (.cel p) ((p, .lst ((r.take m).map D.int)) :: M') := fun hp => q _ hp (valF_take hz) (by rw [List.length_take]; omega) fun c hc => List.mem_of_mem_take hc
  walk_at "g"
  refine iteD (fun h1 => ?_) (fun h1 => ?_)
  · have hget : (r.map D.int)[m - 1]? = some (.int (r.getD (m - 1) 0)) := by
      rw [List.getElem?_map, List.getD_eq_getElem?_getD, List.getElem?_eq_getElem (by omega)]; rfl
    walk_at "g"
    refine Sq.ix (.inl ⟨rfl, hl⟩) (z := .int (r.getD (m - 1) 0)) (by rw [show (m : Int) - 1 = ((m - 1 : Nat) : Int) by omega]; exact atI_nat hget) ?_
    walk_at "g"
    refine iteD (fun h2 => ?_) (fun h2 => ?_)
    · walk_at "g"
      refine ⟨trivial, m - 1, by omega, ?_, rfl, by omega, by omega, fun j hj => ?_⟩
      · rw [show (m : Int) - 1 = ((m - 1 : Nat) : Int) by omega]; rfl
      · by_cases e : j = m - 1
        · rw [e]; exact h2
        · exact hz j (by omega)
    · walk_at "g"
      refine ⟨_, hl, ?_⟩
      rw [cutD_0, ← List.map_take]
      refine fin ⟨fun e => ?_, .inr ?_⟩
      · have h := congrArg List.length e
        rw [List.length_take, List.length_nil] at h
        omega
      · rw [List.length_take, Nat.min_eq_left hm2, getD_take hz]
        exact h2
  · walk_at "g"
    refine ⟨_, hl, ?_⟩
    rw [cutD_0, ← List.map_take]
    refine fin ⟨fun e => ?_, .inl ?_⟩
    · have h := congrArg List.length e
      rw [List.length_take, List.length_nil] at h
      omega
    · rw [List.length_take]; omega
end
/-- first differences -/
def TDiffs : TSp := fun ds M Q _ => ∃ (d : D) (n : Nat) (f : Int → Int), ds = [d] ∧ LV M d (((List.range n).map fun i => f (i : Nat)).map D.int) ∧ n ≤ 100 ∧ Q (.lst (((List.range n).map fun k => difN k f 0).map D.int)) M
theorem TDiffs_mono : Mono TDiffs := fun ds M Q Q' E E' h _ ⟨d, r, f, h1, h2, h3, h4⟩ => ⟨d, r, f, h1, h2, h3, h _ _ h4⟩
theorem TDiffs_len : ∀ ds M Q E, TDiffs ds M Q E → ds.length = 1 := fun ds M Q E h => by obtain ⟨_, _, _, rfl, _⟩ := h; rfl
section
variable {P : Program} {w : World} {K : PySem.W.Frag} {mg : Str → Option Value} {base : Heap}
local macro_rules
  | `(tactic| walk_at "ok") => `(tactic| first
  | ((show BlkOk N_differences_in (defScope st_differences_in) _ _); exact blkOk_by (by decide +kernel)))
  | `(tactic| walk_at "tS") => `(tactic| first
  | ((with_reducible refine gS "row" ?_); refine ws_st 2 ?_))
  | `(tactic| walk_at "tG") => `(tactic| first
  | ((with_reducible refine gG "found" ?_); refine wg_nm 1 ?_)
  | ((with_reducible refine gG "row" ?_); refine wg_nm 2 ?_)
  | ((with_reducible refine gG "value" ?_); refine wg_nm 3 ?_)
  | ((with_reducible refine gG "later" ?_); refine wg_nm 4 ?_))
  | `(tactic| walk_at "eWECall") => `(tactic| first
  | ((with_reducible refine gC "list" ?_); refine we_list rfl (by assumption) ?_)
  | ((with_reducible show WE _ _ (Expr.Call (Expr.Attribute _ "append" _) _ _ _) _ _ _); refine we_append ?_))
  | `(tactic| walk_at "n") => `(tactic| first
  | ((with_reducible refine gN "row" ?_); refine we_nm 2 rfl rfl ?_)
  | ((with_reducible refine gN "found" ?_); refine we_nm 1 rfl rfl ?_)
  | ((with_reducible refine gN "stretch" ?_); refine we_nm 0 rfl rfl ?_)
  | ((with_reducible refine gN "value" ?_); refine we_nm 3 rfl rfl ?_)
  | ((with_reducible refine gN "later" ?_); refine we_nm 4 rfl rfl ?_)
  | ((with_reducible show WE _ _ (Expr.Name "list" _) _ _ _); refine we_bltn (v := .ty "list") rfl (by assumption) (by decide +kernel) rfl ?_))
  | `(tactic| walk_at "t") => `(tactic| first
  | ((with_reducible show WS _ _ (Stmt.Assign [Expr.Name _ _] _ _) _ _ _); walk_at "tS")
  | ((with_reducible show WG _ _ (Expr.Name _ _) _ _ _ _); walk_at "tG")
  | ((with_reducible show WS _ _ (Stmt.Assign [Expr.Tuple [Expr.Name "found" _, Expr.Name "row" _] _ _] (Expr.Tuple _ _ _) _) _ _ _); first | refine ws_par (i := 1) (j := 2) (by assumption) rfl rfl (by decide) rfl rfl rfl ?_ | refine ws_asg ?_)
  | ((with_reducible show WS _ _ (Stmt.Assign [Expr.Tuple _ _ _] _ _) _ _ _); refine ws_asg ?_))
  | `(tactic| walk_at "tg") => `(tactic| first
  | exact Tg.two (i := 3) (j := 4) rfl rfl (by decide) rfl rfl)
theorem fn_differences_inA {f : Addr} {fd : FuncData} (b_list : mg "list" = none) (b_zip : mg "zip" = none) (Fn : L2.Fun K "differences_in" "differences_in" st_differences_in f fd) :
    FnOk P w K mg base (L2.CX P w) 1 f fd ["stretch"] (spG K TDiffs) := by
  refine fn_ok Fn sc_differences_in rfl TDiffs_len ?_
  intro cdv A outer s H E N hr ds M Q X' h
  obtain ⟨d, n, g, rfl, hl, hn, q⟩ := h
  show WB _ _ _ [some _, none, none, none, none] _ _
  refine wb_cons ?_
  walk_at "g"
  refine we_lstC ?_
  walk_at "g"
  intro p
  walk_at "g"
  refine ⟨_, _, rfl, .inl hl.cons, ?_⟩
  walk_at "g"
  refine ⟨_, _, rfl, ?_⟩
  refine wb_cons ?_
  refine ws_while N (fun m δ' M' => ∃ (i : Nat) (x3 x4 : Option D), δ' = [some d, some (.cel p), some (.lst ((row n i g).map D.int)), x3, x4] ∧ M' = (p, .lst (((List.range i).map fun k => difN k g 0).map D.int)) :: M ∧ i ≤ n ∧ m = n - i) ⟨_, 0, none, none, rfl, rfl, Nat.zero_le _, rfl⟩ ?_
  rintro m δ' M' ⟨i, x3, x4, rfl, rfl, hi, rfl⟩
  walk_at "g"
  refine req_intsN (xs := row n i g) (ys := []) .l .l ?_
  refine ⟨_, rfl, ?_⟩
  by_cases h0 : n ≤ i
  · refine iteQ (by rw [decide_eq_true (row_ne.mpr h0)]; rfl) ?_
    obtain rfl : i = n := by omega
    refine wb_one (ws_ret (we_froz 0 ?_))
    walk_at "g"
    exact ⟨p, _, rfl, rfl, q⟩
  · refine iteP (by rw [decide_eq_false (fun z => h0 (row_ne.mp z))]; rfl) ?_
    have h00 : ((row n i g).map D.int)[0]? = some (.int (difN i g 0)) := by
      unfold row
      rw [List.getElem?_map, List.getElem?_map, List.getElem?_range (by omega)]; rfl
    walk_at "g"
    refine ⟨_, atI_nat (j := 0) h00, ?_⟩
    walk_at "g"
    refine ⟨by rw [List.length_map, List.length_map, List.length_range, sizeLine_eq]; omega, ?_⟩
    have hrow : ((row n i g).map D.int).length ≤ 100 := by
      rw [List.length_map]
      unfold row
      rw [List.length_map, List.length_range]; omega
    have hints : ∀ (j : Nat) (u : D), ((row n i g).map D.int)[j]? = some u → ∃ a, u = .int a := fun j u hu => by
      obtain ⟨a, _, e⟩ := List.mem_map.mp (List.mem_of_getElem? hu)
      exact ⟨a, e.symm⟩
    walk_at "g"
    refine ws_setLC (i := 2) N rfl rfl (lc_froz 0 (lc_lcM fSub N (by walk_at "tg") (by walk_at "ok") (wi_zip rfl (by assumption) ?_)))
    walk_at "g"
    rw [cutD_1]
    walk_at "g"
    refine ⟨_, _, (row n i g).map D.int, ((row n i g).map D.int).drop 1, rfl, .l, .l, ?_, fun _ _ => ⟨.l, .l⟩, ?_, ?_⟩
    · rw [zipD_len, sizeLine_eq]; omega
    · intro j d' acc p' hd
      obtain ⟨u, v, hu, hv, rfl⟩ := zipD_inv hd
      rw [List.getElem?_drop] at hv
      obtain ⟨a, rfl⟩ := hints _ _ hu
      obtain ⟨b, rfl⟩ := hints _ _ hv
      refine ⟨_, ⟨_, _, rfl, rfl⟩, fun B => ?_⟩
      walk_at "g"
      all_goals first | exact ⟨rfl, rfl⟩ | rfl
    · intro p'
      refine ⟨p', _, rfl, rfl, ?_⟩
      refine ⟨n - (i + 1), by omega, i + 1, x3, x4, ?_, ?_, by omega, rfl⟩
      · rw [row_step]; rfl
      · rw [List.range_succ, List.map_append, List.map_append]; rfl
end
/-! AlC -/
set_option exponentiation.threshold 100000
/-- a formula as it is told: its length, its size -/
structure Fm (L B : Nat) (r : List Int) : Prop where
  ne : r ≠ []
  len : r.length ≤ L
  bd : ∀ c ∈ r, c.natAbs ≤ 2 ^ B
theorem Fm.pos {L B : Nat} {r : List Int} (h : Fm L B r) : 0 < r.length := List.length_pos_iff.mpr h.ne
theorem Fm.up {L B L' B' : Nat} {r : List Int} (h : Fm L B r) (h1 : L ≤ L') (h2 : B ≤ B') : Fm L' B' r := ⟨h.ne, Nat.le_trans h.len h1, fun c hc => Nat.le_trans (h.bd c hc) (Nat.pow_le_pow_right (by decide) h2)⟩
/-- the size of a value of such a formula at a place of a bits -/
def vb (L B a : Nat) : Nat := 6 + B + 6 * L + a * L
theorem vb_ok {L B a : Nat} {r : List Int} {x : Int} (h : Fm L B r) (hL : L ≤ 60) (hx : x.natAbs + L ≤ 2 ^ a) : (valF r x).natAbs ≤ 2 ^ vb L B a := by
  have h1 := h.len
  have := valF_bd (cs := r) (x := x) (a := a) (c := B) (by omega) h.bd (by omega)
  refine Nat.le_trans this (Nat.pow_le_pow_right (by decide) ?_)
  have := Nat.mul_le_mul_left a h1
  unfold vb
  omega
theorem bin_rec (x : Int) (k : Nat) : bin x k * (x - (k : Int)) = ((k : Int) + 1) * bin x (k + 1) := by
  refine Int.eq_of_mul_eq_mul_left (Int.ne_of_gt (fac_pos k)) ?_
  rw [← Int.mul_assoc, ← bin_mul, ← Int.mul_assoc]
  show fal x (k + 1) = fac (k + 1) * bin x (k + 1)
  exact bin_mul x (k + 1)
def TVal : TSp := fun ds M Q _ => ∃ (d : D) (r : List Int) (x : Int) (L B a : Nat), ds = [d, .int x] ∧ LV M d (r.map D.int) ∧ Fm L B r ∧ L ≤ 60 ∧ x.natAbs + 60 ≤ 2 ^ a ∧ vb 60 B a ≤ 1000000 ∧ Q (.int (valF r x)) M
theorem TVal_mono : Mono TVal := fun ds M Q Q' E E' h _ ⟨d, r, x, L, B, a, h1, h2, h3, h4, h5, h6, h7⟩ => ⟨d, r, x, L, B, a, h1, h2, h3, h4, h5, h6, h _ _ h7⟩
theorem TVal_len : ∀ ds M Q E, TVal ds M Q E → ds.length = 2 := fun ds M Q E h => by obtain ⟨_, _, _, _, _, _, rfl, _⟩ := h; rfl
theorem lc_400 {k : Nat} (h : k ≤ 60) : lc k ≤ 2 ^ 400 := Int.le_trans (lc_bd k (by omega)) (by
  have : (2 : Nat) ^ (6 * k) ≤ 2 ^ 400 := Nat.pow_le_pow_right (by decide) (by omega)
  have a := two_pow (n := 6 * k)
  have b := two_pow (n := 400)
  omega)
theorem bin_bits {x : Int} {a k : Nat} (hx : x.natAbs + 60 ≤ 2 ^ a) (h : k ≤ 60) : (bin x k).natAbs ≤ 2 ^ (a * 60) := Nat.le_trans bin_bd (Nat.le_trans (fal_bd hx k h) (Nat.pow_le_pow_right (by decide) (Nat.mul_le_mul_left _ h)))
section
variable {P : Program} {w : World} {K : PySem.W.Frag} {mg : Str → Option Value} {base : Heap}
local macro_rules
  | `(tactic| walk_at "ok") => `(tactic| first
  | ((show BlkOk N_value_in (defScope st_value_in) _ _); exact blkOk_by (by decide +kernel)))
  | `(tactic| walk_at "tS") => `(tactic| first
  | ((with_reducible refine gS "chosen" ?_); refine ws_st 3 ?_)
  | ((with_reducible refine gS "common" ?_); refine ws_st 4 ?_))
  | `(tactic| walk_at "tG") => `(tactic| first
  | ((with_reducible refine gG "found" ?_); refine wg_nm 2 ?_)
  | ((with_reducible refine gG "chosen" ?_); refine wg_nm 3 ?_)
  | ((with_reducible refine gG "common" ?_); refine wg_nm 4 ?_)
  | ((with_reducible refine gG "number" ?_); refine wg_nm 5 ?_)
  | ((with_reducible refine gG "item" ?_); refine wg_nm 6 ?_))
  | `(tactic| walk_at "eWECall") => `(tactic| first
  | ((with_reducible show WE _ _ (Expr.Call (Expr.Name _ _) _ _ _) _ _ _); walk_at "c"))
  | `(tactic| walk_at "n") => `(tactic| first
  | ((with_reducible refine gN "number" ?_); refine we_nm 5 rfl rfl ?_)
  | ((with_reducible refine gN "chosen" ?_); refine we_nm 3 rfl rfl ?_)
  | ((with_reducible refine gN "common" ?_); refine we_nm 4 rfl rfl ?_)
  | ((with_reducible refine gN "formula" ?_); refine we_nm 0 rfl rfl ?_)
  | ((with_reducible refine gN "place" ?_); refine we_nm 1 rfl rfl ?_)
  | ((with_reducible refine gN "found" ?_); refine we_nm 2 rfl rfl ?_)
  | ((with_reducible refine gN "item" ?_); refine we_nm 6 rfl rfl ?_))
  | `(tactic| walk_at "t") => `(tactic| first
  | ((with_reducible show WS _ _ (Stmt.Assign [Expr.Name _ _] _ _) _ _ _); walk_at "tS")
  | ((with_reducible show WG _ _ (Expr.Name _ _) _ _ _ _); walk_at "tG")
  | ((with_reducible show WS _ _ (Stmt.Assign [Expr.Tuple [Expr.Name "found" _, Expr.Name "chosen" _, Expr.Name "common" _] _ _] (Expr.Tuple _ _ _) _) _ _ _); first | refine ws_par3 (i := 2) (j := 3) (l := 4) (by assumption) rfl rfl rfl (by decide) (by decide) (by decide) rfl rfl rfl rfl ?_ | refine ws_asg ?_)
  | ((with_reducible show WS _ _ (Stmt.AugAssign (Expr.Name "found" _) Operator.Add _ _) _ _ _); refine ws_augI (i := 2) (by assumption) rfl (by first | exact .inl rfl | exact .inr rfl) iop_addQ rfl ?_)
  | ((with_reducible show WS _ _ (Stmt.Assign [Expr.Tuple _ _ _] _ _) _ _ _); refine ws_asg ?_))
  | `(tactic| walk_at "c") => `(tactic| first
  | ((with_reducible refine gCK "multiple_of" ?_); refine we_cl "multiple_of" ?_))
theorem fn_value_in {f : Addr} {fd : FuncData} (b_enum : mg "enumerate" = none) (d_mult : FD P w K mg base 2 "multiple_of" 1 TMult) (Fn : L2.Fun K "value_in" "value_in" st_value_in f fd) :
    FnOk P w K mg base (L2.CX P w) 3 f fd ["formula", "place"] (spG K TVal) := by
  refine fn_ok Fn sc_value_in rfl TVal_len ?_
  intro cdv A outer s H E N hr ds M Q X' h
  obtain ⟨d, r, x, L, B, a, rfl, hl, hr0, hL, hx, hv, q⟩ := h
  have hlen := hr0.len
  show WB _ _ _ [some _, some _, none, none, none, none, none] _ _
  refine wb_cons ?_
  walk_at "g"
  refine ws_for N (wi_enum rfl (by assumption) ?_)
  walk_at "g"
  refine ⟨_, r.map D.int, rfl, hl, fun j δ' M' => ∃ x5 x6 : Option D, δ' = [some d, some (.int x), some (.int (valTo r x j)), some (.int (bin x (j - 1))), some (.int (lc (j - 1))), x5, x6] ∧ M' = M, ?_, ?_, ?_, ?_⟩
  · exact ⟨none, none, by rw [show (0 : Nat) - 1 = 0 from rfl, bin_zero]; rfl, rfl⟩
  · rintro j δ' M' _ ⟨x5, x6, rfl, rfl⟩
    exact hl
  · rintro j d' δ' M' hd ⟨x5, x6, rfl, rfl⟩
    obtain ⟨u, hu, rfl⟩ := enumD_inv hd
    have hj : j < r.length := by have := (List.getElem?_eq_some_iff.mp hu).1; rwa [List.length_map] at this
    obtain rfl : u = .int (r.getD j 0) := by
      rw [List.getElem?_map, List.getElem?_eq_getElem hj] at hu
      rw [List.getD_eq_getElem?_getD, List.getElem?_eq_getElem hj]
      exact (Option.some.inj hu).symm
    have hc : (r.getD j 0).natAbs ≤ 2 ^ B := by
      rw [List.getD_eq_getElem?_getD, List.getElem?_eq_getElem hj]
      exact hr0.bd _ (List.getElem_mem _)
    have hB : B ≤ 1000000 := by unfold vb at hv; omega
    have hB2 : B + 400 ≤ 1000400 := by omega
    have ha : a * 60 ≤ 1000000 := by unfold vb at hv; omega
    have hl4 : ∀ k, k ≤ 60 → (lc k).natAbs ≤ 2 ^ 400 := fun k hk => abs_le_two (by have := lc_pos k; omega) (lc_400 hk)
    have bc : Builtin.Int.intBits (r.getD j 0) ≤ 2 ^ 20 := bits_of hc (by omega)
    have bcl : ∀ k, k ≤ 60 → Builtin.Int.intBits (r.getD j 0 * lc k) ≤ 2 ^ 20 := fun k hk => bits_of (n := B + 400) (by rw [Int.natAbs_mul, Nat.pow_add]; exact Nat.mul_le_mul hc (hl4 k hk)) (by omega)
    have bl : ∀ k, k ≤ 60 → Builtin.Int.intBits (lc k) ≤ 2 ^ 20 := fun k hk => bits_of (hl4 k hk) (by decide)
    have bb : ∀ k, k ≤ 60 → Builtin.Int.intBits (bin x k) ≤ 2 ^ 20 := fun k hk => bits_of (bin_bits hx hk) (by omega)
    have bx : ∀ k : Nat, k ≤ 60 → Builtin.Int.intBits (x - ((k : Int) + 1) + 1) ≤ 2 ^ 20 := fun k hk => bits_of (n := a) (by omega) (by unfold vb at hv; omega)
    walk_at "g"
    cases j with
    | zero =>
      refine iteQ (by decide) ?_
      walk_at "g"
      all_goals first
        | exact ⟨trivial, _, _, rfl, rfl⟩
        | exact IntMulOk.of_bits bc (bl 0 (by omega))
        | exact IntMulOk.of_bits (bcl 0 (by omega)) (bb 0 (by omega))
    | succ i =>
      have hi : ((i + 1 : Nat) : Int) = (i : Int) + 1 := by omega
      have e1 : bin x i * (x - ((i + 1 : Nat) : Int) + 1) / ((i + 1 : Nat) : Int) = bin x (i + 1) := by
        rw [hi, show x - ((i : Int) + 1) + 1 = x - i by omega, bin_rec]
        exact Int.mul_ediv_cancel_left _ (by omega)
      have e2 : mfold [lc i, ((i + 1 : Nat) : Int)] = lc (i + 1) := mfold_two (lc_pos i)
      refine iteP (decide_eq_true (by omega)) ?_
      walk_at "g"
      refine we_lst ?_
      walk_at "g"
      refine ⟨_, [lc i, ((i + 1 : Nat) : Int)], rfl, .l, by show 2 ≤ 64; decide, ?_, ?_⟩
      · intro n hn
        simp only [List.mem_cons, List.not_mem_nil, or_false] at hn
        rcases hn with rfl | rfl
        · exact ⟨lc_pos i, lc_400 (by omega)⟩
        · exact ⟨by omega, le_400 (by omega)⟩
      · rw [e2]
        walk_at "g"
        all_goals first
          | exact ⟨trivial, some (.int ((i + 1 : Nat) : Int)), some (.int (r.getD (i + 1) 0)), by (show [some d, some (.int x), some (.int (valTo r x (i + 1) + r.getD (i + 1) 0 * lc (i + 1) * (bin x i * (x - ((i + 1 : Nat) : Int) + 1) / ((i + 1 : Nat) : Int)))), some (.int (bin x i * (x - ((i + 1 : Nat) : Int) + 1) / ((i + 1 : Nat) : Int))), some (.int (lc (i + 1))), _, _] = _); rw [e1]; rfl, rfl⟩
          | exact IntMulOk.of_bits bc (bl (i + 1) (by omega))
          | (show IntMulOk _ (bin x i * (x - ((i + 1 : Nat) : Int) + 1) / ((i + 1 : Nat) : Int)); rw [e1]; exact IntMulOk.of_bits (bcl (i + 1) (by omega)) (bb (i + 1) (by omega)))
          | skip
      all_goals first
        | (rw [hi]; exact IntMulOk.of_bits (bb i (by omega)) (bx i (by omega)))
        | exact ⟨by omega, by have := log2_lt (i := ((i + 1 : Nat) : Int)) (n := 10) (by omega) (by decide); omega⟩
        | skip
  · rintro δ' M' ⟨x5, x6, rfl, rfl⟩
    rw [enumD_len, List.length_map]
    walk_at "g"
    exact q
end
/-! AlD -/
set_option exponentiation.threshold 100000
def intsD (f : Nat → Int) (n : Nat) : List D := ((List.range n).map f).map D.int
theorem intsD_len (f : Nat → Int) (n : Nat) : (intsD f n).length = n := by simp [intsD]
def TVals : TSp := fun ds M Q _ => ∃ (d : D) (r : List Int) (x : Int) (n L B a : Nat), ds = [d, .int x, .int n] ∧ LV M d (r.map D.int) ∧ Fm L B r ∧ L ≤ 60 ∧ (∀ i : Nat, i < n → (x + i).natAbs + 60 ≤ 2 ^ a) ∧ vb 60 B a ≤ 1000000 ∧ n ≤ 100 ∧ Q (.lst (intsD (fun i => valF r (x + (i : Nat))) n)) M
theorem TVals_mono : Mono TVals := fun ds M Q Q' E E' h _ ⟨d, r, x, n, L, B, a, h1, h2, h3, h4, h5, h6, h7, h8⟩ => ⟨d, r, x, n, L, B, a, h1, h2, h3, h4, h5, h6, h7, h _ _ h8⟩
theorem TVals_len : ∀ ds M Q E, TVals ds M Q E → ds.length = 3 := fun ds M Q E h => by obtain ⟨_, _, _, _, _, _, _, rfl, _⟩ := h; rfl
def fVal (r : List Int) (x : Int) : D → D
  | .int i => .int (valF r (x + i))
  | _ => .non
theorem vals_D (r : List Int) (x : Int) (n : Nat) : (rangeD 0 n).map (fVal r x) = intsD (fun i => valF r (x + (i : Nat))) n := by
  unfold rangeD intsD
  rw [List.map_map, List.map_map]
  refine List.map_congr_left fun i _ => ?_
  show D.int (valF r (x + (0 + (i : Nat)))) = D.int (valF r (x + (i : Nat)))
  rw [show (0 : Int) + (i : Nat) = (i : Nat) by omega]
section
variable {P : Program} {w : World} {K : PySem.W.Frag} {mg : Str → Option Value} {base : Heap}
local macro_rules
  | `(tactic| walk_at "ok") => `(tactic| first
  | ((show BlkOk N_values_in (defScope st_values_in) _ _); exact blkOk_by (by decide +kernel)))
  | `(tactic| walk_at "tG") => `(tactic| first
  | ((with_reducible refine gG "step" ?_); refine wg_nm 3 ?_))
  | `(tactic| walk_at "eWECall") => `(tactic| first
  | ((with_reducible show WE _ _ (Expr.Call (Expr.Name _ _) _ _ _) _ _ _); walk_at "c"))
  | `(tactic| walk_at "n") => `(tactic| first
  | ((with_reducible refine gN "formula" ?_); refine we_nm 0 rfl rfl ?_)
  | ((with_reducible refine gN "place" ?_); refine we_nm 1 rfl rfl ?_)
  | ((with_reducible refine gN "many" ?_); refine we_nm 2 rfl rfl ?_)
  | ((with_reducible refine gN "step" ?_); refine we_nm 3 rfl rfl ?_))
  | `(tactic| walk_at "t") => `(tactic| first
  | ((with_reducible show WG _ _ (Expr.Name _ _) _ _ _ _); walk_at "tG")
  | ((with_reducible show WS _ _ (Stmt.Assign [Expr.Tuple _ _ _] _ _) _ _ _); refine ws_asg ?_))
  | `(tactic| walk_at "c") => `(tactic| first
  | ((with_reducible refine gCK "value_in" ?_); refine we_cl "value_in" ?_))
  | `(tactic| walk_at "tg") => `(tactic| first
  | exact Tg.one (i := 3) rfl rfl)
theorem fn_values_in {f : Addr} {fd : FuncData} (b_range : mg "range" = none) (d_val : FD P w K mg base 3 "value_in" 2 TVal) (Fn : L2.Fun K "values_in" "values_in" st_values_in f fd) :
    FnOk P w K mg base (L2.CX P w) 4 f fd ["formula", "place", "many"] (spG K TVals) := by
  refine fn_ok Fn sc_values_in rfl TVals_len ?_
  intro cdv A outer s H E N hr ds M Q X' h
  obtain ⟨d, r, x, n, L, B, a, rfl, hl, hf, hL, hx, hv, hn, q⟩ := h
  show WB _ _ _ [some _, some _, some _, none] _ _
  refine wb_one (ws_ret ?_)
  refine we_froz 0 (we_lcM (fVal r x) N (by walk_at "tg") (by walk_at "ok") (wi_range1 rfl (by assumption) ?_))
  walk_at "g"
  refine ⟨by omega, by omega, ?_, fun _ _ => trivial, ?_, ?_⟩
  · rw [rangeD_len, sizeLine_eq]; omega
  · intro j d' acc p hd
    obtain ⟨hj, rfl⟩ := rangeD_inv hd
    refine ⟨_, rfl, fun B' => ?_⟩
    walk_at "g"
    refine ⟨_, r, _, L, B, a, rfl, hl.cons, hf, hL, ?_, hv, rfl, rfl⟩
    rw [show (0 : Int) + (j : Nat) = (j : Nat) by omega]
    exact hx j (by omega)
  · intro p
    refine ⟨p, _, rfl, rfl, ?_⟩
    rw [show ((n : Nat) : Int).toNat = n by omega, vals_D]
    exact q
end
/-- the formula of a function by its first values -/
def TBy : TSp := fun ds M Q _ => ∃ (d : D) (f : Int → Int) (n V : Nat), ds = [d] ∧ LV M d (intsD (fun i => f (i : Nat)) n) ∧ 1 ≤ n ∧ n ≤ 60 ∧ Keeps f ∧ Deg n f ∧ (∀ i : Nat, i < n → (f i).natAbs ≤ 2 ^ V) ∧
  ∀ s : List Int, IsPlain s → (∀ x, valF s x = f x) → Fm n (n + V) s → Q (.lst (s.map D.int)) M
theorem TBy_mono : Mono TBy := fun ds M Q Q' E E' h _ ⟨d, f, n, V, h1, h2, h3, h4, h5, h6, h7, h8⟩ => ⟨d, f, n, V, h1, h2, h3, h4, h5, h6, h7, fun s a b c => h _ _ (h8 s a b c)⟩
def TByC : TSp := fun ds M Q _ => ∃ (d : D) (f : Int → Int) (n V : Nat), ds = [d] ∧ LV M d (intsD (fun i => f (i : Nat)) n) ∧ 1 ≤ n ∧ n ≤ 60 ∧ Keeps f ∧ Deg n f ∧ (∀ i : Nat, i < n → (f i).natAbs ≤ 2 ^ V) ∧
  ∀ s : List Int, IsPlain s → (∀ x, valF s x = f x) → Fm n (n + V) s → ∀ p, Q (.cel p) ((p, .lst (s.map D.int)) :: M)
theorem TByC_mono : Mono TByC := fun ds M Q Q' E E' h _ ⟨d, f, n, V, h1, h2, h3, h4, h5, h6, h7, h8⟩ => ⟨d, f, n, V, h1, h2, h3, h4, h5, h6, h7, fun s a b c p => h _ _ (h8 s a b c p)⟩
theorem TByC_len : ∀ ds M Q E, TByC ds M Q E → ds.length = 1 := fun ds M Q E h => by obtain ⟨_, _, _, _, rfl, _⟩ := h; rfl
theorem by_froz : ∀ ds M Q E, Cl Q → TBy ds M Q E → TByC ds M Q E := fun ds M Q E c ⟨d, f, n, V, h1, h2, h3, h4, h5, h6, h7, h8⟩ => ⟨d, f, n, V, h1, h2, h3, h4, h5, h6, h7, fun s a b e p => c p _ _ (h8 s a b e)⟩
def fCo : D → D
  | .tup [.int k, .int v] => .int (v / lc k.toNat)
  | _ => .non
theorem co_D (f : Int → Int) (n : Nat) : (enumD (intsD (fun k => difN k f 0) n)).map fCo = (coefs f n).map D.int := by
  refine List.ext_getElem? fun i => ?_
  rw [List.getElem?_map, List.getElem?_map]
  by_cases hi : i < n
  · have e : (intsD (fun k => difN k f 0) n)[i]? = some (.int (difN i f 0)) := by
      unfold intsD
      rw [List.getElem?_map, List.getElem?_map, List.getElem?_range hi]; rfl
    rw [enumD_get e]
    unfold coefs
    rw [List.getElem?_map, List.getElem?_range hi]
    rfl
  · rw [List.getElem?_eq_none (by rw [enumD_len, intsD_len]; omega), List.getElem?_eq_none (by rw [coefs_len]; omega)]
    rfl
section
variable {P : Program} {w : World} {K : PySem.W.Frag} {mg : Str → Option Value} {base : Heap}
local macro_rules
  | `(tactic| walk_at "ok") => `(tactic| first
  | ((show BlkOk N_formula_by (defScope st_formula_by) _ _); exact blkOk_by (by decide +kernel)))
  | `(tactic| walk_at "tG") => `(tactic| first
  | ((with_reducible refine gG "number" ?_); refine wg_nm 1 ?_)
  | ((with_reducible refine gG "value" ?_); refine wg_nm 2 ?_))
  | `(tactic| walk_at "eWECall") => `(tactic| first
  | ((with_reducible show WE _ _ (Expr.Call (Expr.Name _ _) _ _ _) _ _ _); walk_at "c"))
  | `(tactic| walk_at "n") => `(tactic| first
  | ((with_reducible refine gN "values" ?_); refine we_nm 0 rfl rfl ?_)
  | ((with_reducible refine gN "number" ?_); refine we_nm 1 rfl rfl ?_)
  | ((with_reducible refine gN "value" ?_); refine we_nm 2 rfl rfl ?_))
  | `(tactic| walk_at "t") => `(tactic| first
  | ((with_reducible show WG _ _ (Expr.Name _ _) _ _ _ _); walk_at "tG")
  | ((with_reducible show WS _ _ (Stmt.Assign [Expr.Tuple _ _ _] _ _) _ _ _); refine ws_asg ?_))
  | `(tactic| walk_at "c") => `(tactic| first
  | ((with_reducible refine gCK "plain_of" ?_); refine we_cl "plain_of" ?_)
  | ((with_reducible refine gCK "multiple_to" ?_); refine we_cl "multiple_to" ?_)
  | ((with_reducible refine gCK "differences_in" ?_); refine we_cl "differences_in" ?_))
  | `(tactic| walk_at "tg") => `(tactic| first
  | exact Tg.two (i := 1) (j := 2) rfl rfl (by decide) rfl rfl)
theorem fn_formula_byC {f : Addr} {fd : FuncData} (b_enum : mg "enumerate" = none) (d_plain : FD P w K mg base 1 "plain_of" 1 TPlainC) (d_lc : FD P w K mg base 3 "multiple_to" 1 TLc) (d_dif : FD P w K mg base 1 "differences_in" 1 TDiffs) (Fn : L2.Fun K "formula_by" "formula_by" st_formula_by f fd) :
    FnOk P w K mg base (L2.CX P w) 4 f fd ["values"] (spG K TByC) := by
  refine fn_ok Fn sc_formula_by rfl TByC_len ?_
  intro cdv A outer s H E N hr ds M Q X' h
  obtain ⟨d, g, n, V, rfl, hl, hn1, hn, hk, hd, hV, q⟩ := h
  show WB _ _ _ [some _, none, none] _ _
  refine wb_one (ws_ret ?_)
  walk_at "c"
  refine wa_cons (we_froz 0 (we_lcM fCo N (by walk_at "tg") (by walk_at "ok") (wi_enum rfl (by assumption) ?_)))
  walk_at "g"
  refine ⟨_, n, g, rfl, hl, by omega, ?_⟩
  walk_at "g"
  refine ⟨_, intsD (fun k => difN k g 0) n, rfl, .l, ?_, fun _ _ => .l, ?_, ?_⟩
  · rw [enumD_len, intsD_len, sizeLine_eq]; omega
  · intro j d' acc p hd'
    obtain ⟨u, hu, rfl⟩ := enumD_inv hd'
    have hj : j < n := by have := (List.getElem?_eq_some_iff.mp hu).1; rwa [intsD_len] at this
    obtain rfl : u = .int (difN j g 0) := by
      unfold intsD at hu
      rw [List.getElem?_map, List.getElem?_map, List.getElem?_range hj] at hu
      exact (Option.some.inj hu).symm
    refine ⟨_, ⟨_, _, rfl, rfl⟩, fun B => ?_⟩
    walk_at "g"
    refine ⟨j, rfl, by omega, ?_⟩
    walk_at "g"
    all_goals first
      | exact ⟨rfl, rfl⟩
      | exact ⟨lc_pos j, by have := log2_lt (i := lc j) (n := 401) (Nat.lt_of_le_of_lt (abs_le_two (by have := lc_pos j; omega) (lc_400 (by omega))) (Nat.pow_lt_pow_right (by decide) (by decide))) (by decide); omega⟩
  · intro p
    refine ⟨p, _, rfl, rfl, ?_⟩
    rw [co_D]
    walk_at "g"
    have hne : coefs g n ≠ [] := fun e => by have := congrArg List.length e; rw [coefs_len, List.length_nil] at this; omega
    refine ⟨_, coefs g n, rfl, .l, hne, by rw [coefs_len]; omega, fun s hs hv hle hm pC => ?_⟩
    refine q s hs (fun x => by rw [hv, interp hk hd]) ⟨hs.1, by rw [coefs_len] at hle; exact hle, fun c hc => coefs_bd hk hV c (hm c hc)⟩ pC
end
/-! AlE -/
set_option exponentiation.threshold 100000
def TResC (m : Nat) (Pre : List D → Cells → (Int → Int) → Nat → Nat → Prop) : TSp := fun ds M Q _ => ds.length = m ∧ ∃ (F : Int → Int) (L B : Nat), Pre ds M F L B ∧ ∀ s : List Int, IsPlain s → (∀ x, valF s x = F x) → Fm L B s → ∀ p, Q (.cel p) ((p, .lst (s.map D.int)) :: M)
theorem TResC_mono (m : Nat) (Pre : List D → Cells → (Int → Int) → Nat → Nat → Prop) : Mono (TResC m Pre) := fun ds M Q Q' E E' h _ ⟨h0, F, L, B, h1, h2⟩ => ⟨h0, F, L, B, h1, fun s a b c p => h _ _ (h2 s a b c p)⟩
theorem TResC_len (m : Nat) (Pre : List D → Cells → (Int → Int) → Nat → Nat → Prop) : ∀ ds M Q E, TResC m Pre ds M Q E → ds.length = m := fun ds M Q E h => h.1
theorem Deg.shift' (s : Int) {n : Nat} {f : Int → Int} (h : Deg n f) : Deg n fun x => f (s + x) := Deg.congr (fun x => by show f (x + s) = f (s + x); rw [Int.add_comm]) (h.shift s)
theorem Keeps.shift' (s : Int) {f : Int → Int} (h : Keeps f) : Keeps fun x => f (s + x) := fun x y => by
  have := h (s + x) (s + y)
  rwa [show s + x - (s + y) = x - y by omega] at this
def PMoved : List D → Cells → (Int → Int) → Nat → Nat → Prop := fun ds M F L B => ∃ (d : D) (r : List Int) (st : Int) (B0 a : Nat), ds = [d, .int st] ∧ LV M d (r.map D.int) ∧ Fm L B0 r ∧ L ≤ 41 ∧ st.natAbs + 200 ≤ 2 ^ a ∧ vb 60 B0 a ≤ 1000000 ∧ (∀ x, F x = valF r (x + st)) ∧ B = L + vb L B0 a
abbrev TMovedC : TSp := TResC 2 PMoved
section
variable {P : Program} {w : World} {K : PySem.W.Frag} {mg : Str → Option Value} {base : Heap}
local macro_rules
  | `(tactic| walk_at "ok") => `(tactic| first
  | ((show BlkOk N_moved_in (defScope st_moved_in) _ _); exact blkOk_by (by decide +kernel)))
  | `(tactic| walk_at "eWECall") => `(tactic| first
  | ((with_reducible show WE _ _ (Expr.Call (Expr.Name _ _) _ _ _) _ _ _); walk_at "c")
  | ((with_reducible refine gC "len" ?_); refine we_len rfl (by assumption) ?_))
  | `(tactic| walk_at "n") => `(tactic| first
  | ((with_reducible refine gN "formula" ?_); refine we_nm 0 rfl rfl ?_)
  | ((with_reducible refine gN "steps" ?_); refine we_nm 1 rfl rfl ?_))
  | `(tactic| walk_at "t") => `(tactic| first
  | ((with_reducible show WS _ _ (Stmt.Assign [Expr.Tuple _ _ _] _ _) _ _ _); refine ws_asg ?_))
  | `(tactic| walk_at "c") => `(tactic| first
  | ((with_reducible refine gCK "formula_by" ?_); refine we_cl "formula_by" ?_)
  | ((with_reducible refine gCK "values_in" ?_); refine we_cl "values_in" ?_))
theorem fn_moved_inC {f : Addr} {fd : FuncData} (b_len : mg "len" = none) (d_by : FD P w K mg base 4 "formula_by" 1 TByC) (d_vals : FD P w K mg base 4 "values_in" 3 TVals) (Fn : L2.Fun K "moved_in" "moved_in" st_moved_in f fd) :
    FnOk P w K mg base (L2.CX P w) 5 f fd ["formula", "steps"] (spG K TMovedC) := by
  refine fn_ok Fn sc_moved_in rfl (TResC_len _ _) ?_
  intro cdv A outer s H E N hr ds M Q X' h
  obtain ⟨-, F, L, B, ⟨d, r, st, B0, a, rfl, hl, hf, hL, hst, hv, hF, rfl⟩, q⟩ := h
  have hlen := hf.len
  have hpos := hf.pos
  show WB _ _ _ [some _, some _] _ _
  refine wb_one ?_
  walk_at "g"
  refine Sq.len (.inl ⟨rfl, hl⟩) ?_
  rw [List.length_map]
  walk_at "g"
  refine ⟨_, r, st, r.length, L, B0, a, rfl, hl, hf, by omega, fun i hi => by omega, hv, by omega, ?_⟩
  walk_at "g"
  refine ⟨_, fun x => valF r (st + x), r.length, vb L B0 a, rfl, .l, by omega, by omega, (keeps_valF r).shift' st, (valF_deg r).shift' st, fun i hi => vb_ok hf (by omega) (by omega), fun s hs hvs hfs pC => ?_⟩
  exact q s hs (fun x => by rw [hvs, hF, Int.add_comm]) (hfs.up hlen (by omega)) pC
end
section
variable {P : Program} {w : World} {K : PySem.W.Frag} {mg : Str → Option Value} {base : Heap}
local macro_rules
  | `(tactic| walk_at "ok") => `(tactic| first
  | ((show BlkOk N_values_of (defScope st_values_of) _ _); exact blkOk_by (by decide +kernel)))
  | `(tactic| walk_at "eWECall") => `(tactic| first
  | ((with_reducible show WE _ _ (Expr.Call (Expr.Name _ _) _ _ _) _ _ _); walk_at "c"))
  | `(tactic| walk_at "n") => `(tactic| first
  | ((with_reducible refine gN "formula" ?_); refine we_nm 0 rfl rfl ?_)
  | ((with_reducible refine gN "many" ?_); refine we_nm 2 rfl rfl ?_)
  | ((with_reducible refine gN "place" ?_); refine we_nm 1 rfl rfl ?_)
  | ((with_reducible show WE _ _ (Expr.Name "MOST_VALUES_formulas" _) _ _ _); refine we_globI rfl (by assumption) ?_))
  | `(tactic| walk_at "t") => `(tactic| first
  | ((with_reducible show WS _ _ (Stmt.Assign [Expr.Tuple _ _ _] _ _) _ _ _); refine ws_asg ?_))
  | `(tactic| walk_at "c") => `(tactic| first
  | ((with_reducible refine gCK "need_formula" ?_); refine we_cl "need_formula" ?_)
  | ((with_reducible refine gCK "values_in" ?_); refine we_cl "values_in" ?_))
theorem fn_values_of {f : Addr} {fd : FuncData} (c1 : ∃ t, mg "MOST_VALUES_formulas" = some (.int 60 t)) (d_need : FD P w K mg base 3 "need_formula" 1 (TForm .non)) (d_vals : FD P w K mg base 4 "values_in" 3 TVals) (Fn : L2.Fun K "values_of" "values_of" st_values_of f fd) :
    FnOk P w K mg base (L2.CX P w) 5 f fd ["formula", "place", "many"] (spG K (fun ds M Q E => TVals ds M Q E ∧ ∃ (d : D) (r : List Int) (x : Int) (n : Nat), ds = [d, .int x, .int n] ∧ LV M d (r.map D.int) ∧ r ≠ [] ∧ r.length ≤ 41 ∧ 1 ≤ n ∧ n ≤ 60)) := by
  refine fn_ok Fn sc_values_of rfl (fun ds M Q E h => TVals_len ds M Q E h.1) ?_
  intro cdv A outer s H E N hr ds M Q X' h
  obtain ⟨h, d, r, x, n, rfl, hl, h0, h41, hn1, hn2⟩ := h
  show WB _ _ _ [some _, some _, some _] _ _
  refine wb_cons ?_
  walk_at "g"
  refine ⟨_, r, rfl, hl, h0, h41, ?_⟩
  walk_at "g"
  refine iteP (decide_eq_true (by omega)) ?_
  walk_at "g"
  refine iteQ (by rw [decide_eq_true (show (n : Int) ≤ 60 by omega)]; rfl) ?_
  walk_at "g"
  exact h
end
/-! FfA -/
set_option exponentiation.threshold 100000
/-- the first one of a class -/
def TFst : TSp := fun ds M Q _ => ∃ r m v : Int, ds = [.tup [.int r, .int m], .int v] ∧ 0 < m ∧ Q (.int (v + (r - v) % m)) M
theorem TFst_mono : Mono TFst := fun ds M Q Q' E E' h _ ⟨r, m, v, h1, h2, h3⟩ => ⟨r, m, v, h1, h2, h _ _ h3⟩
theorem TFst_len : ∀ ds M Q E, TFst ds M Q E → ds.length = 2 := fun ds M Q E h => by obtain ⟨_, _, _, rfl, _⟩ := h; rfl
section
variable {P : Program} {w : World} {K : PySem.W.Frag} {mg : Str → Option Value} {base : Heap}
local macro_rules
  | `(tactic| walk_at "ok") => `(tactic| first
  | ((show BlkOk N_first_from (defScope st_first_from) _ _); exact blkOk_by (by decide +kernel)))
  | `(tactic| walk_at "tG") => `(tactic| first
  | ((with_reducible refine gG "rest" ?_); refine wg_nm 2 ?_)
  | ((with_reducible refine gG "modulus" ?_); refine wg_nm 3 ?_))
  | `(tactic| walk_at "n") => `(tactic| first
  | ((with_reducible refine gN "value" ?_); refine we_nm 1 rfl rfl ?_)
  | ((with_reducible refine gN "rest" ?_); refine we_nm 2 rfl rfl ?_)
  | ((with_reducible refine gN "modulus" ?_); refine we_nm 3 rfl rfl ?_)
  | ((with_reducible refine gN "own_class" ?_); refine we_nm 0 rfl rfl ?_))
  | `(tactic| walk_at "t") => `(tactic| first
  | ((with_reducible show WG _ _ (Expr.Name _ _) _ _ _ _); walk_at "tG")
  | ((with_reducible show WS _ _ (Stmt.Assign [Expr.Tuple _ _ _] _ _) _ _ _); refine ws_asg ?_))
theorem fn_first_from {f : Addr} {fd : FuncData} (Fn : L2.Fun K "first_from" "first_from" st_first_from f fd) :
    FnOk P w K mg base (L2.CX P w) 1 f fd ["own_class", "value"] (spG K TFst) := by
  refine fn_ok Fn sc_first_from rfl TFst_len ?_
  intro cdv A outer s H E N hr ds M Q X' h
  obtain ⟨r, m, v, rfl, hm, q⟩ := h
  show WB _ _ _ [some (.tup [.int r, .int m]), some (.int v), none, none] _ _
  refine wb_cons ?_
  walk_at "g"
  refine iteD (fun h0 => absurd h0 (by omega)) (fun h0 => ?_)
  walk_at "g"
  all_goals first
    | exact q
    | omega
end
theorem atI_end {ds : List D} {z : D} (h0 : 0 < ds.length) (h : ds[ds.length - 1]? = some z) : atI ds (-1) = some z := by
  unfold atI ixN
  rw [if_neg (by decide), if_pos (by omega)]
  show ds[(-1 + (ds.length : Int)).toNat]? = some z
  rw [show (-1 + (ds.length : Int)).toNat = ds.length - 1 by omega]
  exact h
theorem bookD_get {xs : List (Int × Int)} {i : Nat} {x : Int × Int} (h : xs[i]? = some x) : (bookD xs)[i]? = some (itemD x) := by
  unfold bookD
  rw [List.getElem?_map, h]; rfl
theorem bookD_len (xs : List (Int × Int)) : (bookD xs).length = xs.length := by unfold bookD; rw [List.length_map]
/-- a book's ends: the first place and how wide it is -/
structure Ends (xs : List (Int × Int)) (a : Int) (w : Nat) : Prop where
  fst : ∃ v, xs[0]? = some (a, v)
  lst : ∃ v, xs[xs.length - 1]? = some (a + w, v)
theorem Ends.rg {xs : List (Int × Int)} {a : Int} {w : Nat} (h : Ends xs a w) (hp : (xs.map Prod.fst).Pairwise (· < ·)) : ∀ x ∈ xs, a ≤ x.1 ∧ x.1 ≤ a + w := by
  intro x hx
  obtain ⟨i, hi, rfl⟩ := List.getElem_of_mem hx
  obtain ⟨v, h1⟩ := h.fst
  obtain ⟨u, h2⟩ := h.lst
  rw [List.getElem?_eq_getElem (by omega)] at h1 h2
  have h1 := Option.some.inj h1
  have h2 := Option.some.inj h2
  have hp := List.pairwise_iff_getElem.mp hp
  constructor
  · by_cases e : i = 0
    · subst e; rw [h1]; exact Int.le_refl _
    · have := hp 0 i (by rw [List.length_map]; omega) (by rw [List.length_map]; omega) (by omega)
      rw [List.getElem_map, List.getElem_map, h1] at this
      exact Int.le_of_lt this
  · by_cases e : i = xs.length - 1
    · subst e; rw [h2]; exact Int.le_refl _
    · have := hp i (xs.length - 1) (by rw [List.length_map]; omega) (by rw [List.length_map]; omega) (by omega)
      rw [List.getElem_map, List.getElem_map, h2] at this
      exact Int.le_of_lt this
/-- formula_for: a new list -/
def TForC : TSp := fun ds M Q _ => ∃ (d : D) (xs : List (Int × Int)), ds = [d] ∧ LV M d (bookD xs) ∧ PossOk xs ∧ ((xs = [] ∧ ∀ p, Q (.cel p) ((p, .lst [.int 0]) :: M)) ∨
  ∃ (a : Int) (w : Nat), Ends xs a w ∧ w ≤ 40 ∧ ∀ s : List Int, IsPlain s → (∀ x, valF s x = forF (fillTo xs a (w + 1)) a w (x - a)) → Fm 41 5000 s → ∀ p, Q (.cel p) ((p, .lst (s.map D.int)) :: M))
theorem TForC_mono : Mono TForC := fun ds M Q Q' E E' h _ ⟨d, xs, h1, h2, h3, h4⟩ => ⟨d, xs, h1, h2, h3, h4.imp (fun ⟨a, b⟩ => ⟨a, fun p => h _ _ (b p)⟩) fun ⟨a, w, b, c, k⟩ => ⟨a, w, b, c, fun s x y z p => h _ _ (k s x y z p)⟩⟩
theorem TForC_len : ∀ ds M Q E, TForC ds M Q E → ds.length = 1 := fun ds M Q E h => by obtain ⟨_, _, rfl, _⟩ := h; rfl
def fLook (ys : List (Int × Int)) : D → D
  | .int i => .int ((lookI ys i).getD 0)
  | _ => .non
theorem look_D (ys : List (Int × Int)) (a : Int) (w : Nat) : (rangeD a (w + 1)).map (fLook ys) = intsD (fun i => forF ys a w (i : Nat)) (w + 1) := by
  unfold rangeD intsD
  rw [List.map_map, List.map_map]
  refine List.map_congr_left fun i hi => ?_
  have hi := List.mem_range.mp hi
  show D.int ((lookI ys (a + (i : Nat))).getD 0) = D.int (forF ys a w (i : Nat))
  rw [forF_at hi, rowY_at hi]
section
variable {P : Program} {w : World} {K : PySem.W.Frag} {mg : Str → Option Value} {base : Heap}
local macro_rules
  | `(tactic| walk_at "ok") => `(tactic| first
  | ((show BlkOk N_formula_for (defScope st_formula_for) _ _); exact blkOk_by (by decide +kernel)))
  | `(tactic| walk_at "tS") => `(tactic| first
  | ((with_reducible refine gS "found" ?_); refine ws_st 3 ?_))
  | `(tactic| walk_at "tG") => `(tactic| first
  | ((with_reducible refine gG "first" ?_); refine wg_nm 1 ?_)
  | ((with_reducible refine gG "last" ?_); refine wg_nm 2 ?_)
  | ((with_reducible refine gG "place" ?_); refine wg_nm 4 ?_))
  | `(tactic| walk_at "eWECall") => `(tactic| first
  | ((with_reducible show WE _ _ (Expr.Call (Expr.Name _ _) _ _ _) _ _ _); walk_at "c")
  | ((with_reducible refine gC "list" ?_); refine we_list rfl (by assumption) ?_))
  | `(tactic| walk_at "n") => `(tactic| first
  | ((with_reducible refine gN "book" ?_); refine we_nm 0 rfl rfl ?_)
  | ((with_reducible refine gN "first" ?_); refine we_nm 1 rfl rfl ?_)
  | ((with_reducible refine gN "found" ?_); refine we_nm 3 rfl rfl ?_)
  | ((with_reducible refine gN "place" ?_); refine we_nm 4 rfl rfl ?_)
  | ((with_reducible refine gN "last" ?_); refine we_nm 2 rfl rfl ?_)
  | ((with_reducible show WE _ _ (Expr.Name "MOST_WIDE" _) _ _ _); refine we_globI rfl (by assumption) ?_)
  | ((with_reducible show WE _ _ (Expr.Name "list" _) _ _ _); refine we_bltn (v := .ty "list") rfl (by assumption) (by decide +kernel) rfl ?_)
  | ((with_reducible show WE _ _ (Expr.Name "dict" _) _ _ _); refine we_bltn (v := .ty "dict") rfl (by assumption) (by decide +kernel) rfl ?_))
  | `(tactic| walk_at "t") => `(tactic| first
  | ((with_reducible show WS _ _ (Stmt.Assign [Expr.Name _ _] _ _) _ _ _); walk_at "tS")
  | ((with_reducible show WG _ _ (Expr.Name _ _) _ _ _ _); walk_at "tG")
  | ((with_reducible show WS _ _ (Stmt.Assign [Expr.Tuple [Expr.Name "first" _, Expr.Name "last" _] _ _] (Expr.Tuple _ _ _) _) _ _ _); first | refine ws_par (i := 1) (j := 2) (by assumption) rfl rfl (by decide) rfl rfl rfl ?_ | refine ws_asg ?_)
  | ((with_reducible show WS _ _ (Stmt.Assign [Expr.Tuple _ _ _] _ _) _ _ _); refine ws_asg ?_))
  | `(tactic| walk_at "c") => `(tactic| first
  | ((with_reducible refine gCK "need_possible" ?_); refine we_cl "need_possible" ?_)
  | ((with_reducible refine gCK "moved_in" ?_); refine we_cl "moved_in" ?_)
  | ((with_reducible refine gCK "formula_by" ?_); refine we_cl "formula_by" ?_)
  | ((with_reducible refine gCK "first_from" ?_); refine we_cl "first_from" ?_)
  | ((with_reducible refine gCK "class_by" ?_); refine we_cl "class_by" ?_))
  | `(tactic| walk_at "tg") => `(tactic| first
  | exact Tg.one (i := 4) rfl rfl)
  | `(tactic| walk_at "eWTCompare") => `(tactic| ((with_reducible show WT _ _ (Expr.Compare _ [CmpOp.NotIn] _ _) _ _ _); refine wt_notInD (by assumption) ?_))
  | `(tactic| walk_at "sS") => `(tactic| ((with_reducible show WS _ _ (Stmt.Assign [Expr.Subscript _ _ _] _ _) _ _ _); refine ws_dputI (by assumption) ?_))
local macro_rules | `(tactic| walk_at "eWECall") => `(tactic| ((with_reducible show WE _ _ (Expr.Call (Expr.Name "list" _) [Expr.Call (Expr.Attribute _ "items" _) _ _ _] _ _) _ _ _); refine we_itemsL (Nice.calm (by assumption)) rfl (by assumption) ?_))
theorem fn_formula_for {f : Addr} {fd : FuncData} (b_dict : mg "dict" = none) (b_list : mg "list" = none) (b_range : mg "range" = none) (c1 : ∃ t, mg "MOST_WIDE" = some (.int 40 t)) (d_poss : FD P w K mg base 6 "need_possible" 1 TPoss) (d_moved : FD P w K mg base 5 "moved_in" 2 TMovedC) (d_by : FD P w K mg base 4 "formula_by" 1 TBy) (d_first : FD P w K mg base 1 "first_from" 2 TFst) (d_cls : FD P w K mg base 3 "class_by" 2 TClsBy) (Fn : L2.Fun K "formula_for" "formula_for" st_formula_for f fd) :
    FnOk P w K mg base (L2.CX P w) 7 f fd ["book"] (spG K TForC) := by
  refine fn_ok Fn sc_formula_for rfl TForC_len ?_
  intro cdv A outer s H E N hr ds M Q X' h
  obtain ⟨d, xs, rfl, hl, hb, q⟩ := h
  show WB _ _ _ [some _, none, none, none, none] _ _
  refine wb_cons ?_
  walk_at "g"
  refine ⟨d, xs, rfl, hl, hb, ?_⟩
  walk_at "g"
  have hv : PV M d (.list (pys (bookD xs))) := by
    rcases hl with rfl | ⟨k, a, rfl, h⟩
    · exact .fz (okDs_book _)
    · exact .cl k h (okDs_book _)
  refine req_d hv (.fz rfl : PV M (.lst []) (.list [])) (shaped_book _) rfl ?_
  rcases q with ⟨rfl, q⟩ | ⟨a, wd, he, hw, q⟩
  · refine ⟨_, rfl, iteP rfl ?_⟩
    refine wb_one (ws_ret (we_lstC ?_))
    walk_at "g"
    exact q
  obtain ⟨x0, tl, rfl⟩ : ∃ x0 tl, xs = x0 :: tl := by
    obtain ⟨v, e⟩ := he.fst
    cases xs with
    | nil => cases e
    | cons x0 tl => exact ⟨x0, tl, rfl⟩
  refine ⟨_, rfl, iteQ rfl ?_⟩
  generalize hxs : x0 :: tl = xs at *
  obtain ⟨v0, e0⟩ := he.fst
  obtain ⟨v1, e1⟩ := he.lst
  have hpos : 0 < xs.length := by rw [← hxs]; simp
  have nd : (xs.map Prod.fst).Nodup := hb.1.2.2.imp fun h e => by rw [e] at h; exact absurd h (Int.lt_irrefl _)
  have g0 : (bookD xs)[0]? = some (.tup [.int a, .int v0]) := bookD_get e0
  have g1 : atI (bookD xs) (-1) = some (.tup [.int (a + wd), .int v1]) := atI_end (by rw [bookD_len]; exact hpos) (by rw [bookD_len]; exact bookD_get e1)
  have rg := he.rg hb.1.2.2
  have bd : ∀ x ∈ xs, x.1.natAbs ≤ 10 ^ 30 ∧ x.2.natAbs ≤ 10 ^ 30 := fun x hx => hb.1.2.1 x hx
  have f0 : FilOk xs a wd 0 xs := FilOk.start hb.2 rg fun x hx => Nat.le_trans (bd x hx).2 (by decide)
  have hfil := fillTo_ok hw f0
  walk_at "g"
  refine .inl ⟨_, 0, _, hl, rfl, atI_nat (j := 0) g0, ?_⟩
  walk_at "g"
  refine .inl ⟨_, -1, _, hl, rfl, g1, ?_⟩
  walk_at "g"
  refine ⟨_, _, rfl, ?_⟩
  walk_at "g"
  refine iteQ (decide_eq_false (by omega)) ?_
  walk_at "g"
  refine we_dictB N.calm rfl (by assumption) ?_
  walk_at "g"
  refine ⟨xs, hl, nd, fun c => ?_⟩
  walk_at "g"
  have hu1 : (cxF P w K mg base N_formula_for "formula_for" st_formula_for f cdv A outer s H E).A.units + 1 < cLine := by have := hr.un; omega
  refine ws_for N (wi_range2A rfl (by assumption) ?_)
  walk_at "g"
  refine ⟨_, _, rfl, fun j δ' M' => ∃ x4 : Option D, δ' = [some d, some (.int a), some (.int (a + wd)), some (.cel c), x4] ∧ M' = (c, .dct (kvI (fillTo xs a j))) :: M, ⟨none, rfl, rfl⟩, fun _ _ _ _ _ => trivial, ?_, ?_⟩
  · rintro j d1 δ' M' hd ⟨x4, rfl, rfl⟩
    obtain ⟨hj, rfl⟩ := rangeD_inv hd
    have hj : j < wd + 1 := by omega
    have hf := hfil j (by omega)
    walk_at "g"
    refine ⟨_, c, 0, fillTo xs a j, rfl, rfl, rfl, ?_⟩
    by_cases hc : a + (j : Int) ∈ (fillTo xs a j).map Prod.fst
    · refine iteQ (by rw [decide_eq_true hc]; rfl) ?_
      walk_at "g"
      refine ⟨_, rfl, ?_⟩
      show (c, Cell.dct (kvI (fillTo xs a j))) :: M = (c, Cell.dct (kvI (if _ then _ else _))) :: M
      rw [if_pos hc]
    · refine iteP (by rw [decide_eq_false hc]; rfl) ?_
      obtain ⟨hL, hLb⟩ := fill_isL hf hw (by omega) hc
      have hlen : (fillTo xs a j).length ≤ 65 := by
        have := hf.ln
        have := hb.1.1
        omega
      walk_at "g"
      refine ⟨c, 0, fillTo xs a j, rfl, rfl, ?_⟩
      walk_at "g"
      refine ⟨_, fillTo xs a j, a + (j : Int), fillX (fillTo xs a j) (a + j), 65, 5, rfl, .l, ⟨hlen, by decide, by decide⟩, fun x hx => ?_, fillX_ok hf.fit _, fun ⟨x, hx, e⟩ => absurd (List.mem_map.mpr ⟨x, hx, e⟩) hc, fun _ L hL' => ?_⟩
      · have := hf.rg x hx
        show (a + (j : Int) - x.1).natAbs ≤ 64
        omega
      obtain rfl := lcmF_of hL'
      walk_at "g"
      refine ⟨_, _, _, rfl, hL.1, ?_⟩
      walk_at "g"
      have ev : (0 : Int) + (fillX (fillTo xs a j) (a + j) % lcmF ((fillTo xs a j).map fun x => a + (j : Int) - x.1) - 0) % lcmF ((fillTo xs a j).map fun x => a + (j : Int) - x.1) = fillV (fillTo xs a j) (a + j) := by
        unfold fillV
        rw [Int.zero_add, Int.sub_zero, Int.emod_emod_of_dvd _ (Int.dvd_refl _)]
      rw [ev]
      refine ⟨c, 0, fillTo xs a j, a + (j : Int), _, rfl, rfl, rfl, rfl, hc, by rw [sizeLine_eq]; omega, ?_⟩
      refine ⟨_, rfl, ?_⟩
      show (c, Cell.dct (kvI (fillTo xs a j ++ [(a + (j : Int), fillV (fillTo xs a j) (a + j))]))) :: M = (c, Cell.dct (kvI (if _ then _ else _))) :: M
      rw [if_neg hc]
  · rintro δ' M' ⟨x4, rfl, rfl⟩
    rw [rangeD_len]
    refine wb_one (ws_ret (WE.few ?_))
    walk_at "g"
    rw [show (a + (wd : Int) + 1 - a).toNat = wd + 1 by omega]
    have hF := hfil (wd + 1) (Nat.le_refl _)
    generalize hY : fillTo xs a (wd + 1) = Y at *
    refine we_froz 0 (we_lcM (fLook Y) N (by walk_at "tg") (by walk_at "ok") (wi_range2A rfl (by assumption) ?_))
    walk_at "g"
    refine ⟨a, a + (wd : Int) + 1, rfl, ?_⟩
    rw [show (a + (wd : Int) + 1 - a).toNat = wd + 1 by omega]
    refine ⟨?_, fun _ _ => trivial, ?_, ?_⟩
    · rw [rangeD_len, sizeLine_eq]; omega
    · intro j d' acc p hd
      obtain ⟨hj, rfl⟩ := rangeD_inv hd
      refine ⟨_, rfl, fun B' => ?_⟩
      refine we_dgetI hu1 ?_
      walk_at "g"
      refine ⟨c, 1, Y, a + (j : Int), _, rfl, rfl, rfl, (rowY_mem hF (by omega)).2, rfl, ?_⟩
      show D.int _ = D.int ((lookI Y (a + (j : Int))).getD 0)
      rw [(rowY_mem hF (by omega)).2]
      rfl
    · intro p
      refine ⟨p, _, rfl, rfl, ?_⟩
      rw [look_D]
      walk_at "g"
      have ab : a.natAbs ≤ 10 ^ 30 := (bd _ (List.mem_of_getElem? e0)).1
      have ab2 : (10 : Nat) ^ 30 + 200 ≤ 2 ^ 101 := by decide
      refine ⟨_, forF Y a wd, wd + 1, 110, rfl, .l, by omega, by omega, forF_keeps hF, forF_deg Y a wd, fun i hi => forF_bd hF hi, fun s hs hv hfs => ?_⟩
      walk_at "g"
      refine ⟨rfl, fun x => valF s (x + (0 - a)), wd + 1, _, ⟨_, s, 0 - a, wd + 1 + 110, 101, rfl, .l, hfs, by omega, by omega, by unfold vb; omega, fun x => rfl, rfl⟩, fun s' hs' hv' hfs' p' => ?_⟩
      refine ⟨_, List.Sublist.cons₂ _ (List.sublist_cons_self _ _), q s' hs' (fun x => ?_) (hfs'.up (by omega) (by unfold vb; omega)) p'⟩
      rw [hv']
      show valF s (x + (0 - a)) = _
      rw [hv, show x + (0 - a) = x - a by omega]
end
/-! FfB -/
set_option exponentiation.threshold 100000
theorem getD_get {r : List Int} {k : Nat} (h : k < r.length) : (r.map D.int)[k]? = some (.int (r.getD k 0)) := by
  rw [List.getElem?_map, List.getD_eq_getElem?_getD, List.getElem?_eq_getElem h]; rfl
theorem fm_get {L B : Nat} {r : List Int} (h : Fm L B r) (k : Nat) : (r.getD k 0).natAbs ≤ 2 ^ B := by
  by_cases hk : k < r.length
  · rw [List.getD_eq_getElem?_getD, List.getElem?_eq_getElem hk]
    exact h.bd _ (List.getElem_mem _)
  · rw [getD_out (by omega)]
    exact Nat.zero_le _
def TNeedStr : TSp := fun ds M Q E => TIsStr ds M (fun _ M' => Q .non M') E
theorem TNeedStr_mono : Mono TNeedStr := fun ds M Q Q' E E' h g a => TIsStr_mono ds M _ _ E E' (fun d M' x => h _ _ x) g a
/-- formula_from: a new list -/
def TFromC : TSp := fun ds M Q _ => ∃ (d : D) (f : Int → Int) (n V : Nat), ds = [d] ∧ LV M d (intsD (fun i => f (i : Nat)) n) ∧ 1 ≤ n ∧ n ≤ 40 ∧ Keeps f ∧ Deg n f ∧ (∀ i : Nat, i < n → (f i).natAbs ≤ 2 ^ V) ∧
  ∀ s : List Int, IsPlain s → (∀ x, valF s x = f x) → Fm n (n + V) s → ∀ p, Q (.cel p) ((p, .lst (s.map D.int)) :: M)
theorem TFromC_mono : Mono TFromC := fun ds M Q Q' E E' h _ ⟨d, f, n, V, h1, h2, h3, h4, h5, h6, h7, h8⟩ => ⟨d, f, n, V, h1, h2, h3, h4, h5, h6, h7, fun s a b c p => h _ _ (h8 s a b c p)⟩
theorem TFromC_len : ∀ ds M Q E, TFromC ds M Q E → ds.length = 1 := fun ds M Q E h => by obtain ⟨_, _, _, _, rfl, _⟩ := h; rfl
theorem row_fit {f : Int → Int} (hk : Keeps f) (n : Nat) : confs (stI ((List.range n).map fun i : Nat => f (i : Nat))) = [] := by
  refine stI_fit.mpr fun i j hi hj => ?_
  rw [List.length_map, List.length_range] at hi hj
  have g : ∀ {i : Nat}, i < n → ((List.range n).map fun i : Nat => f (i : Nat)).getD i 0 = f (i : Nat) := fun {i} h => by
    rw [List.getD_eq_getElem?_getD, List.getElem?_map, List.getElem?_range h]; rfl
  rw [g hi, g hj]
  exact hk i j
section
variable {P : Program} {w : World} {K : PySem.W.Frag} {mg : Str → Option Value} {base : Heap}
local macro_rules
  | `(tactic| walk_at "ok") => `(tactic| first
  | ((show BlkOk N_formula_from (defScope st_formula_from) _ _); exact blkOk_by (by decide +kernel)))
  | `(tactic| walk_at "eWECall") => `(tactic| first
  | ((with_reducible show WE _ _ (Expr.Call (Expr.Name _ _) _ _ _) _ _ _); walk_at "c"))
  | `(tactic| walk_at "n") => `(tactic| first
  | ((with_reducible refine gN "stretch" ?_); refine we_nm 0 rfl rfl ?_))
  | `(tactic| walk_at "t") => `(tactic| first
  | ((with_reducible show WS _ _ (Stmt.Assign [Expr.Tuple _ _ _] _ _) _ _ _); refine ws_asg ?_))
  | `(tactic| walk_at "c") => `(tactic| first
  | ((with_reducible show WE _ _ (Expr.Call (Expr.Name "need_stretch" _) [_] [] _) _ _ _); refine we_callD (x := "need_stretch") (by assumption) (by walk_at "r") rfl ?_)
  | ((with_reducible refine gCK "need_right" ?_); refine we_cl "need_right" ?_)
  | ((with_reducible refine gCK "formula_by" ?_); refine we_cl "formula_by" ?_))
theorem fn_formula_from {f : Addr} {fd : FuncData} {C : Addr} (d_need : FDd P w K mg base 3 "need_stretch" 2 [.int 40] TNeedStr) (d_right : FD P w K mg base 5 "need_right" 1 (TRight C)) (d_by : FD P w K mg base 4 "formula_by" 1 TByC) (Fn : L2.Fun K "formula_from" "formula_from" st_formula_from f fd) :
    FnOk P w K mg base (L2.CX P w) 6 f fd ["stretch"] (spG K TFromC) := by
  refine fn_ok Fn sc_formula_from rfl TFromC_len ?_
  intro cdv A outer s H E N hr ds M Q X' h
  obtain ⟨d, g, n, V, rfl, hl, hn1, hn, hk, hd, hV, q⟩ := h
  have hlen : ((List.range n).map fun i : Nat => g (i : Nat)).length = n := by rw [List.length_map, List.length_range]
  show WB _ _ _ [some _] _ _
  refine wb_cons ?_
  walk_at "g"
  refine ⟨d, (List.range n).map fun i : Nat => g (i : Nat), 40, rfl, hl, by omega, by omega, by omega, ?_⟩
  walk_at "g"
  refine ⟨d, (List.range n).map fun i : Nat => g (i : Nat), rfl, hl, by omega, fun _ => ?_, fun i j r e => ?_⟩
  · walk_at "g"
    exact ⟨d, g, n, V, rfl, hl, hn1, by omega, hk, hd, hV, q⟩
  · rw [row_fit hk n] at e
    cases e
end
/-- lies_on -/
def liesB (xs : List (Int × Int)) (r : List Int) : Bool := (xs.map fun x => decide (valF r x.1 = x.2)).all id
def TLies : TSp := fun ds M Q _ => ∃ (d e : D) (xs : List (Int × Int)) (r : List Int) (L B : Nat), ds = [d, e] ∧ LV M d (bookD xs) ∧ LV M e (r.map D.int) ∧ BookOk xs ∧ Fm L B r ∧ L ≤ 41 ∧ B ≤ 900000 ∧ Q (.bl (liesB xs r)) M
theorem TLies_mono : Mono TLies := fun ds M Q Q' E E' h _ ⟨d, e, xs, r, L, B, h1, h2, h3, h4, h5, h6, h7, h8⟩ => ⟨d, e, xs, r, L, B, h1, h2, h3, h4, h5, h6, h7, h _ _ h8⟩
theorem TLies_len : ∀ ds M Q E, TLies ds M Q E → ds.length = 2 := fun ds M Q E h => by obtain ⟨_, _, _, _, _, _, rfl, _⟩ := h; rfl
def fLies (r : List Int) : D → D
  | .tup [.int p, .int v] => .bl (decide (valF r p = v))
  | _ => .non
theorem lies_D (xs : List (Int × Int)) (r : List Int) : (bookD xs).map (fLies r) = (xs.map fun x => decide (valF r x.1 = x.2)).map D.bl := by
  unfold bookD
  rw [List.map_map, List.map_map]
  rfl
section
variable {P : Program} {w : World} {K : PySem.W.Frag} {mg : Str → Option Value} {base : Heap}
local macro_rules
  | `(tactic| walk_at "ok") => `(tactic| first
  | ((show BlkOk N_lies_on (defScope st_lies_on) _ _); exact blkOk_by (by decide +kernel)))
  | `(tactic| walk_at "tG") => `(tactic| first
  | ((with_reducible refine gG "place" ?_); refine wg_nm 2 ?_)
  | ((with_reducible refine gG "value" ?_); refine wg_nm 3 ?_))
  | `(tactic| walk_at "eWECall") => `(tactic| first
  | ((with_reducible show WE _ _ (Expr.Call (Expr.Name _ _) _ _ _) _ _ _); walk_at "c")
  | ((with_reducible refine gC "all" ?_); refine we_all rfl rfl (by assumption) ?_))
  | `(tactic| walk_at "n") => `(tactic| first
  | ((with_reducible refine gN "book" ?_); refine we_nm 0 rfl rfl ?_)
  | ((with_reducible refine gN "formula" ?_); refine we_nm 1 rfl rfl ?_)
  | ((with_reducible refine gN "place" ?_); refine we_nm 2 rfl rfl ?_)
  | ((with_reducible refine gN "value" ?_); refine we_nm 3 rfl rfl ?_))
  | `(tactic| walk_at "t") => `(tactic| first
  | ((with_reducible show WG _ _ (Expr.Name _ _) _ _ _ _); walk_at "tG")
  | ((with_reducible show WS _ _ (Stmt.Assign [Expr.Tuple _ _ _] _ _) _ _ _); refine ws_asg ?_))
  | `(tactic| walk_at "c") => `(tactic| first
  | ((with_reducible refine gCK "need_book" ?_); refine we_cl "need_book" ?_)
  | ((with_reducible refine gCK "need_formula" ?_); refine we_cl "need_formula" ?_)
  | ((with_reducible refine gCK "value_in" ?_); refine we_cl "value_in" ?_))
  | `(tactic| walk_at "tg") => `(tactic| first
  | exact Tg.two (i := 2) (j := 3) rfl rfl (by decide) rfl rfl)
theorem fn_lies_on {f : Addr} {fd : FuncData} (b_all : mg "all" = none) (d_book : FD P w K mg base 5 "need_book" 1 TNeedBook) (d_need : FD P w K mg base 3 "need_formula" 1 (TForm .non)) (d_val : FD P w K mg base 3 "value_in" 2 TVal) (Fn : L2.Fun K "lies_on" "lies_on" st_lies_on f fd) :
    FnOk P w K mg base (L2.CX P w) 6 f fd ["book", "formula"] (spG K TLies) := by
  refine fn_ok Fn sc_lies_on rfl TLies_len ?_
  intro cdv A outer s H E N hr ds M Q X' h
  obtain ⟨d, e, xs, r, L, B, rfl, hl, hl2, hb, hf, hL, hB, q⟩ := h
  have hlen := hf.len
  show WB _ _ _ [some _, some _, none, none] _ _
  refine wb_cons ?_
  walk_at "g"
  refine ⟨d, xs, rfl, hl, hb, ?_⟩
  walk_at "g"
  refine ⟨_, r, rfl, hl2, hf.ne, by omega, ?_⟩
  walk_at "g"
  refine we_froz 0 (we_lcM (fLies r) N (by walk_at "tg") (by walk_at "ok") (wi_list ?_))
  walk_at "g"
  refine ⟨_, hl, ?_, fun _ _ => hl.cons, ?_, ?_⟩
  · rw [bookD_len, sizeLine_eq]; have := hb.1; omega
  · intro j d' acc p hd
    obtain ⟨⟨u, v⟩, hx, rfl⟩ : ∃ x, xs[j]? = some x ∧ d' = itemD x := by
      unfold bookD at hd
      rw [List.getElem?_map] at hd
      cases hxj : xs[j]? with
      | none => rw [hxj] at hd; cases hd
      | some x => rw [hxj] at hd; exact ⟨x, rfl, (Option.some.inj hd).symm⟩
    have hu : u.natAbs ≤ 10 ^ 30 := (hb.2.1 _ (List.mem_of_getElem? hx)).1
    have h2 : (10 : Nat) ^ 30 + 200 ≤ 2 ^ 101 := by decide
    refine ⟨_, ⟨_, _, rfl, rfl⟩, fun B' => ?_⟩
    walk_at "g"
    refine ⟨_, r, u, L, B, 101, rfl, hl2.cons, hf, by omega, by omega, by unfold vb; omega, ?_⟩
    walk_at "g"
    all_goals first
      | exact ⟨rfl, rfl⟩
      | trace_state
  · intro p
    refine ⟨p, _, rfl, rfl, ?_⟩
    rw [lies_D]
    walk_at "g"
    refine ⟨_, xs.map fun x => decide (valF r x.1 = x.2), rfl, .l, ?_⟩
    walk_at "g"
    exact q
end
/-! AlgJ -/
set_option exponentiation.threshold 100000
/-- a store of drawn digits; n: at most so many numbers were mixed -/
def StoreL (n : Nat) (L : List D) : Prop := ∃ a m c : Int, L = [.int a, .int m, .int c] ∧ 0 ≤ a ∧ 0 ≤ m ∧ m < 2 ^ 200 ∧ 0 ≤ c ∧ c ≤ n
theorem StoreL.up {n m : Nat} {L : List D} (h : StoreL n L) (k : n ≤ m) : StoreL m L := let ⟨a, b, c, h1, h2, h3, h4, h5, h6⟩ := h; ⟨a, b, c, h1, h2, h3, h4, h5, by omega⟩
def TStore : TSp := fun ds M Q _ => ∃ (ns : List Int) (k : Nat), ds = [.lst (ns.map D.int), .int k] ∧ ns.length ≤ 1000 ∧ k ≤ 100 ∧ ∀ p L, StoreL 0 L → Q (.cel p) ((p, .lst L) :: M)
theorem TStore_mono : Mono TStore := fun ds M Q Q' E E' h _ ⟨ns, k, h1, h2, h3, h4⟩ => ⟨ns, k, h1, h2, h3, fun p L a => h _ _ (h4 p L a)⟩
theorem TStore_len : ∀ ds M Q E, TStore ds M Q E → ds.length = 2 := fun ds M Q E h => by obtain ⟨_, _, rfl, _⟩ := h; rfl
section
variable {P : Program} {w : World} {K : PySem.W.Frag} {mg : Str → Option Value} {base : Heap}
local macro_rules
  | `(tactic| walk_at "ok") => `(tactic| first
  | ((show BlkOk N_l_store (defScope st_l_store) _ _); exact blkOk_by (by decide +kernel)))
  | `(tactic| walk_at "tS") => `(tactic| first
  | ((with_reducible refine gS "_law_cell" ?_); refine ws_st 2 ?_))
  | `(tactic| walk_at "eWECall") => `(tactic| first
  | ((with_reducible refine gC "abs" ?_); refine we_abs rfl (by assumption) ?_)
  | ((with_reducible refine gC "max" ?_); refine we_max2 rfl rfl (by assumption) ?_)
  | ((with_reducible refine gC "len" ?_); refine we_len rfl (by assumption) ?_)
  | ((with_reducible refine gC "int" ?_); refine we_int2 rfl (by assumption) ?_))
  | `(tactic| walk_at "n") => `(tactic| first
  | ((with_reducible refine gN "_law_k" ?_); refine we_nm 1 rfl rfl ?_)
  | ((with_reducible refine gN "_law_script" ?_); refine we_nm 0 rfl rfl ?_)
  | ((with_reducible refine gN "_law_cell" ?_); refine we_nm 2 rfl rfl ?_)
  | ((with_reducible show WE _ _ (Expr.Name "int" _) _ _ _); refine we_bltn (v := .ty "int") rfl (by assumption) (by decide +kernel) rfl ?_))
  | `(tactic| walk_at "t") => `(tactic| first
  | ((with_reducible show WS _ _ (Stmt.Assign [Expr.Name _ _] _ _) _ _ _); walk_at "tS")
  | ((with_reducible show WS _ _ (Stmt.Assign [Expr.Tuple _ _ _] _ _) _ _ _); refine ws_asg ?_))
theorem fn_store {f : Addr} {fd : FuncData} (b_abs : mg "abs" = none) (b_int : mg "int" = none) (b_len : mg "len" = none) (b_max : mg "max" = none) (Fn : L2.Fun K "_law_store" "_law_store" st_l_store f fd) :
    FnOk P w K mg base (L2.CX P w) 1 f fd ["_law_script", "_law_k"] (spG K TStore) := by
  refine fn_ok Fn sc_l_store rfl TStore_len ?_
  intro cdv A outer s H E N hr ds M Q X' h
  obtain ⟨ns, k, rfl, hns, hk, q⟩ := h
  show WB _ _ _ [some _, some _, none] _ _
  refine wb_cons ?_
  walk_at "g"
  have fin : ∀ a : Int, 0 ≤ a → StoreL 0 [.int (if 0 < a - 10 ^ Int.toNat 18 then a - 10 ^ Int.toNat 18 else 0), .int (a % (10 ^ Int.toNat 37 + 43) * 83 + 7 * (k : Int)), .int 0] := fun a ha => by
    have e1 : (10 : Int) ^ Int.toNat 37 = 10 ^ 37 := rfl
    have h1 := Int.emod_nonneg a (show (10 : Int) ^ Int.toNat 37 + 43 ≠ 0 by decide)
    have h2 := Int.emod_lt_of_pos a (show (0 : Int) < 10 ^ Int.toNat 37 + 43 by decide)
    rw [e1] at h1 h2 ⊢
    refine ⟨_, _, _, rfl, ?_, by omega, by omega, by omega, by omega⟩
    split <;> omega
  refine iteD (fun hlt => ?_) (fun hlt => ?_)
  · rw [List.length_map] at hlt
    have hk2 : k < ns.length := by omega
    walk_at "g"
    refine ⟨.int (ns.getD k 0), atI_nat (getD_get hk2), ?_⟩
    walk_at "g"
    refine we_lstC ?_
    walk_at "g"
    refine ⟨_, _, rfl, ?_⟩
    walk_at "g"
    all_goals first
      | exact fun p => q p _ (fin _ (by split <;> omega))
      | exact ⟨by decide, by have := intBits_le (i := 10) (n := 4) (by decide); omega⟩
      | exact IntMulOk.of_right (by decide)
      | exact IntMulOk.of_left (by decide)
      | decide
      | skip
  · walk_at "g"
    refine we_lstC ?_
    walk_at "g"
    refine ⟨_, _, rfl, ?_⟩
    walk_at "g"
    all_goals first
      | exact fun p => q p _ (fin 0 (by decide))
      | exact ⟨by decide, by have := intBits_le (i := 10) (n := 4) (by decide); omega⟩
      | exact IntMulOk.of_right (by decide)
      | exact IntMulOk.of_left (by decide)
      | decide
      | skip
end
def TPick : TSp := fun ds M Q _ => ∃ (b : Addr) (bound : Int), ds = [.cel b, .int bound] ∧ 0 < bound ∧ bound < 2 ^ 300 ∧ CL M b fun L f => ∃ n, StoreL n L ∧ n ≤ 1000000 ∧ ∀ r L', 0 ≤ r → r < bound → StoreL (n + 1) L' → Q (.int r) (f L')
theorem TPick_mono : Mono TPick := fun ds M Q Q' E E' h _ ⟨b, w, h1, h2, h3, h4⟩ => ⟨b, w, h1, h2, h3, h4.imp fun L f ⟨n, g1, g2, g3⟩ => ⟨n, g1, g2, fun r L' a b c => h _ _ (g3 r L' a b c)⟩⟩
theorem TPick_len : ∀ ds M Q E, TPick ds M Q E → ds.length = 2 := fun ds M Q E h => by obtain ⟨_, _, rfl, _⟩ := h; rfl
section
variable {P : Program} {w : World} {K : PySem.W.Frag} {mg : Str → Option Value} {base : Heap}
local macro_rules
  | `(tactic| walk_at "ok") => `(tactic| first
  | ((show BlkOk N_l_pick (defScope st_l_pick) _ _); exact blkOk_by (by decide +kernel)))
  | `(tactic| walk_at "tS") => `(tactic| first
  | ((with_reducible refine gS "_law_digit" ?_); refine ws_st 2 ?_)
  | ((with_reducible refine gS "_law_mixed" ?_); refine ws_st 3 ?_))
  | `(tactic| walk_at "eWECall") => `(tactic| first
  | ((with_reducible refine gC "int" ?_); refine we_int2 rfl (by assumption) ?_))
  | `(tactic| walk_at "n") => `(tactic| first
  | ((with_reducible refine gN "_law_store_here" ?_); refine we_nm 0 rfl rfl ?_)
  | ((with_reducible show WE _ _ (Expr.Name "int" _) _ _ _); refine we_bltn (v := .ty "int") rfl (by assumption) (by decide +kernel) rfl ?_)
  | ((with_reducible refine gN "_law_bound" ?_); refine we_nm 1 rfl rfl ?_)
  | ((with_reducible refine gN "_law_mixed" ?_); refine we_nm 3 rfl rfl ?_)
  | ((with_reducible refine gN "_law_digit" ?_); refine we_nm 2 rfl rfl ?_))
  | `(tactic| walk_at "t") => `(tactic| first
  | ((with_reducible show WS _ _ (Stmt.Assign [Expr.Name _ _] _ _) _ _ _); walk_at "tS")
  | ((with_reducible show WS _ _ (Stmt.Assign [Expr.Tuple _ _ _] _ _) _ _ _); refine ws_asg ?_))
theorem fn_pick {f : Addr} {fd : FuncData} (b_int : mg "int" = none) (Fn : L2.Fun K "_law_pick" "_law_pick" st_l_pick f fd) :
    FnOk P w K mg base (L2.CX P w) 1 f fd ["_law_store_here", "_law_bound"] (spG K TPick) := by
  refine fn_ok Fn sc_l_pick rfl TPick_len ?_
  intro cdv A outer s H E N hr ds M Q X' h
  obtain ⟨b, bound, rfl, hb0, hb1, k, L, hM, n, ⟨a, m, c, rfl, ha, hm0, hm1, hc0, hc1⟩, hn, q⟩ := h
  have hlog : bound.natAbs.log2 < 9000 := by have := log2_lt (i := bound) (n := 300) (by omega) (by decide); omega
  show WB _ _ _ [some _, some _, none, none] _ _
  refine wb_cons ?_
  walk_at "g"
  refine iteD (fun hpos => ?_) (fun hpos => ?_)
  · walk_at "g"
    all_goals first
      | exact q _ _ (Int.emod_nonneg _ (by omega)) (Int.emod_lt_of_pos _ hb0) ⟨a / bound, m, c, rfl, Int.ediv_nonneg ha (by omega), hm0, hm1, hc0, by omega⟩
      | exact hb0
      | exact (⟨hb0, hlog⟩ : CDivW a bound)
  · have hp1 : ∀ i : Int, i.natAbs ≤ 2 ^ 400 → CPw i 3 := fun i hi => ⟨by decide, by
      have := intBits_le (i := i) (n := 401) (Nat.lt_of_le_of_lt hi (Nat.pow_lt_pow_right (by decide) (by decide)))
      omega⟩
    walk_at "g"
    all_goals first
      | exact q _ _ (Int.emod_nonneg _ (by omega)) (Int.emod_lt_of_pos _ hb0) ⟨a, m, c + 1, rfl, ha, hm0, hm1, by omega, by omega⟩
      | exact hb0
      | exact ⟨by decide, by have := intBits_le (i := 10) (n := 4) (by decide); omega⟩
      | exact (⟨by decide, by have := log2_lt (i := 16381) (n := 20) (by decide) (by decide); omega⟩ : CDivW _ 16381)
      | exact IntMulOk.of_left (by decide)
      | exact hp1 _ (by omega)
      | exact hp1 _ (by
          have h1 := Int.emod_nonneg ((m + 32416187567 * (c + 1)) ^ Int.toNat 3) (show (10 : Int) ^ Int.toNat 40 + 121 ≠ 0 by decide)
          have h2 := Int.emod_lt_of_pos ((m + 32416187567 * (c + 1)) ^ Int.toNat 3) (show (0 : Int) < 10 ^ Int.toNat 40 + 121 by decide)
          generalize (m + 32416187567 * (c + 1)) ^ Int.toNat 3 % (10 ^ Int.toNat 40 + 121) = y at h1 h2 ⊢
          have e : (10 : Int) ^ Int.toNat 40 = 10 ^ 40 := rfl
          rw [e] at h2
          omega)
      | decide
      | skip
end
/-! AlgK -/
set_option exponentiation.threshold 100000
section
variable {X : Cx} {P : XP} {M : Cells} {δ : Slots} {st : Stmt} {E : En}
theorem ws_mid (I : Slots → Cells → Prop) (h : WS X P st δ M { E with nx := I }) (k : ∀ δ' M', I δ' M' → E.nx δ' M') : WS X P st δ M E := fun σ H F G =>
  (h σ H F G).mono ⟨fun σ' H' ⟨F', M', δ', s', S', q⟩ => ⟨F', M', δ', s', S', k _ _ q⟩, fun _ _ h => h, fun _ _ h => h, fun _ _ h => h⟩
end
theorem tpick {b : Addr} {bound : Int} {M : Cells} {Q : D → Cells → Prop} {E : Ex → Cells → Prop} (h0 : 0 < bound) (h1 : bound < 2 ^ 300) (h : CL M b fun L f => ∃ n, StoreL n L ∧ n ≤ 1000000 ∧ ∀ r L', 0 ≤ r → r < bound → StoreL (n + 1) L' → Q (.int r) (f L')) : TPick [.cel b, .int bound] M Q E := ⟨b, bound, rfl, h0, h1, h⟩
def TSpot : TSp := fun ds M Q _ => ∃ (b : Addr), ds = [.cel b] ∧ CL M b fun L f => ∃ n, StoreL n L ∧ n ≤ 900000 ∧ ∀ i L', -10 ^ 30 ≤ i → i ≤ 10 ^ 30 → StoreL (n + 2) L' → Q (.int i) (f L')
theorem TSpot_mono : Mono TSpot := fun ds M Q Q' E E' h _ ⟨b, h1, h4⟩ => ⟨b, h1, h4.imp fun L f ⟨n, g1, g2, g3⟩ => ⟨n, g1, g2, fun r L' a b c => h _ _ (g3 r L' a b c)⟩⟩
theorem TSpot_len : ∀ ds M Q E, TSpot ds M Q E → ds.length = 1 := fun ds M Q E h => by obtain ⟨_, rfl, _⟩ := h; rfl
section
variable {P : Program} {w : World} {K : PySem.W.Frag} {mg : Str → Option Value} {base : Heap}
local macro_rules
  | `(tactic| walk_at "ok") => `(tactic| first
  | ((show BlkOk N_l_spot (defScope st_l_spot) _ _); exact blkOk_by (by decide +kernel)))
  | `(tactic| walk_at "tS") => `(tactic| first
  | ((with_reducible refine gS "_law_wide" ?_); refine ws_st 1 ?_))
  | `(tactic| walk_at "eWECall") => `(tactic| first
  | ((with_reducible show WE _ _ (Expr.Call (Expr.Name _ _) _ _ _) _ _ _); walk_at "c"))
  | `(tactic| walk_at "n") => `(tactic| first
  | ((with_reducible refine gN "_law_store_here" ?_); refine we_nm 0 rfl rfl ?_)
  | ((with_reducible refine gN "_law_wide" ?_); refine we_nm 1 rfl rfl ?_))
  | `(tactic| walk_at "t") => `(tactic| first
  | ((with_reducible show WS _ _ (Stmt.Assign [Expr.Name _ _] _ _) _ _ _); walk_at "tS")
  | ((with_reducible show WS _ _ (Stmt.Assign [Expr.Tuple _ _ _] _ _) _ _ _); refine ws_asg ?_))
  | `(tactic| walk_at "c") => `(tactic| first
  | ((with_reducible refine gCK "_law_pick" ?_); refine we_cl "_law_pick" ?_))
theorem fn_spot {f : Addr} {fd : FuncData} (d_pick : FD P w K mg base 1 "_law_pick" 2 TPick) (Fn : L2.Fun K "_law_spot" "_law_spot" st_l_spot f fd) :
    FnOk P w K mg base (L2.CX P w) 2 f fd ["_law_store_here"] (spG K TSpot) := by
  refine fn_ok Fn sc_l_spot rfl TSpot_len ?_
  intro cdv A outer s H E N hr ds M Q X' h
  obtain ⟨b, rfl, k, L, hM, n, hL, hn, q⟩ := h
  show WB _ _ _ [some _, none] _ _
  refine wb_cons ?_
  walk_at "t"
  refine we_ix ?_ (fun _ _ => rfl)
  refine we_lst ?_
  walk_at "g"
  refine tpick (by decide) (by decide) (cl_k hM ⟨n, hL, by omega, fun r1 L1 h10 h11 hL1 => ?_⟩)
  have e3 : r1 = 0 ∨ r1 = 1 ∨ r1 = 2 ∨ r1 = 3 := by omega
  have pick : ∃ wd : Int, atI [D.int 4, D.int 60, D.int (10 ^ Int.toNat 9), D.int (10 ^ Int.toNat 30)] r1 = some (.int wd) ∧ 1 ≤ wd ∧ wd ≤ 10 ^ 30 := by
    rcases e3 with rfl | rfl | rfl | rfl
    · exact ⟨4, rfl, by decide, by decide⟩
    · exact ⟨60, rfl, by decide, by decide⟩
    · exact ⟨10 ^ Int.toNat 9, rfl, by decide, by decide⟩
    · exact ⟨10 ^ Int.toNat 30, rfl, by decide, by decide⟩
  obtain ⟨wd, hwd, hw1, hw2⟩ := pick
  refine rix_l ⟨_, hwd, ?_⟩
  walk_at "g"
  refine tpick (by omega) (by omega) (cl_set hM ⟨n + 1, hL1, by omega, fun r2 L2 h20 h21 hL2 => ?_⟩)
  walk_at "g"
  exact q _ L2 (by omega) (by omega) hL2
  all_goals first
    | exact ⟨by decide, by have := intBits_le (i := 10) (n := 4) (by decide); omega⟩
    | exact IntMulOk.of_left (by decide)
end
theorem ixN_at {n j : Nat} (h : j < n) : ixN n (j : Int) = some j := by
  unfold ixN
  rw [if_pos (by omega), if_pos (by omega)]
  rfl
def TRow : TSp := fun ds M Q _ => ∃ (b : Addr) (m : Nat), ds = [.cel b, .int m] ∧ 1 ≤ m ∧ m ≤ 41 ∧ CL M b fun L f => ∃ n, StoreL n L ∧ n ≤ 900000 ∧ ∀ r L', Fm m 100 r → StoreL (n + 100) L' → Q (.lst (r.map D.int)) (f L')
theorem TRow_mono : Mono TRow := fun ds M Q Q' E E' h _ ⟨b, m, h1, h2, h3, h4⟩ => ⟨b, m, h1, h2, h3, h4.imp fun L f ⟨n, g1, g2, g3⟩ => ⟨n, g1, g2, fun r L' b c => h _ _ (g3 r L' b c)⟩⟩
theorem TRow_len : ∀ ds M Q E, TRow ds M Q E → ds.length = 2 := fun ds M Q E h => by obtain ⟨_, _, rfl, _⟩ := h; rfl
section
variable {P : Program} {w : World} {K : PySem.W.Frag} {mg : Str → Option Value} {base : Heap}
local macro_rules
  | `(tactic| walk_at "ok") => `(tactic| first
  | ((show BlkOk N_l_row (defScope st_l_row) _ _); exact blkOk_by (by decide +kernel)))
  | `(tactic| walk_at "tS") => `(tactic| first
  | ((with_reducible refine gS "_law_wide" ?_); refine ws_st 4 ?_)
  | ((with_reducible refine gS "_law_found" ?_); refine ws_st 5 ?_))
  | `(tactic| walk_at "tG") => `(tactic| first
  | ((with_reducible refine gG "_law_size_here" ?_); refine wg_nm 2 ?_)
  | ((with_reducible refine gG "_law_bent" ?_); refine wg_nm 3 ?_)
  | ((with_reducible refine gG "_law_turn" ?_); refine wg_nm 6 ?_)
  | ((with_reducible refine gG "_law_item" ?_); refine wg_nm 7 ?_))
  | `(tactic| walk_at "eWECall") => `(tactic| first
  | ((with_reducible show WE _ _ (Expr.Call (Expr.Name _ _) _ _ _) _ _ _); walk_at "c")
  | ((with_reducible refine gC "int" ?_); refine we_int2 rfl (by assumption) ?_))
  | `(tactic| walk_at "n") => `(tactic| first
  | ((with_reducible refine gN "_law_store_here" ?_); refine we_nm 0 rfl rfl ?_)
  | ((with_reducible refine gN "_law_size_here" ?_); refine we_nm 2 rfl rfl ?_)
  | ((with_reducible refine gN "_law_found" ?_); refine we_nm 5 rfl rfl ?_)
  | ((with_reducible refine gN "_law_bent" ?_); refine we_nm 3 rfl rfl ?_)
  | ((with_reducible refine gN "_law_wide" ?_); refine we_nm 4 rfl rfl ?_)
  | ((with_reducible refine gN "_law_turn" ?_); refine we_nm 6 rfl rfl ?_)
  | ((with_reducible refine gN "_law_most" ?_); refine we_nm 1 rfl rfl ?_)
  | ((with_reducible refine gN "_law_item" ?_); refine we_nm 7 rfl rfl ?_)
  | ((with_reducible show WE _ _ (Expr.Name "int" _) _ _ _); refine we_bltn (v := .ty "int") rfl (by assumption) (by decide +kernel) rfl ?_))
  | `(tactic| walk_at "t") => `(tactic| first
  | ((with_reducible show WS _ _ (Stmt.Assign [Expr.Name _ _] _ _) _ _ _); walk_at "tS")
  | ((with_reducible show WG _ _ (Expr.Name _ _) _ _ _ _); walk_at "tG")
  | ((with_reducible show WS _ _ (Stmt.Assign [Expr.Tuple [Expr.Name "_law_size_here" _, Expr.Name "_law_bent" _] _ _] (Expr.Tuple _ _ _) _) _ _ _); first | refine ws_par (i := 2) (j := 3) (by assumption) rfl rfl (by decide) rfl rfl rfl ?_ | refine ws_asg ?_)
  | ((with_reducible show WS _ _ (Stmt.Assign [Expr.Tuple _ _ _] _ _) _ _ _); refine ws_asg ?_))
  | `(tactic| walk_at "c") => `(tactic| first
  | ((with_reducible refine gCK "_law_pick" ?_); refine we_cl "_law_pick" ?_))
  | `(tactic| walk_at "tg") => `(tactic| first
  | exact Tg.one (i := 6) rfl rfl
  | exact Tg.one (i := 7) rfl rfl)
theorem fn_row {f : Addr} {fd : FuncData} (b_int : mg "int" = none) (b_range : mg "range" = none) (d_pick : FD P w K mg base 1 "_law_pick" 2 TPick) (Fn : L2.Fun K "_law_row" "_law_row" st_l_row f fd) :
    FnOk P w K mg base (L2.CX P w) 2 f fd ["_law_store_here", "_law_most"] (spG K TRow) := by
  refine fn_ok Fn sc_l_row rfl TRow_len ?_
  intro cdv A outer s H E N hr ds M Q X' h
  obtain ⟨b, m, rfl, hm1, hm2, k, L, hM, n, hL, hn, q⟩ := h
  show WB _ _ _ [some _, some _, none, none, none, none, none, none] _ _
  refine wb_cons ?_
  walk_at "g"
  refine tpick (by omega) (by omega) (cl_k hM ⟨n, hL, by omega, fun r1 L1 h10 h11 hL1 => ?_⟩)
  walk_at "g"
  refine tpick (by decide) (by decide) (cl_set hM ⟨n + 1, hL1, by omega, fun bent L2 hb0 hb1 hL2 => ?_⟩)
  walk_at "g"
  refine ⟨_, _, rfl, ?_⟩
  refine wb_cons ?_
  walk_at "t"
  refine we_ix ?_ (fun _ _ => rfl)
  refine we_lst ?_
  walk_at "g"
  have e3 : bent = 0 ∨ bent = 1 ∨ bent = 2 ∨ bent = 3 ∨ bent = 4 := by omega
  have pick : ∃ wd : Int, atI [D.int 3, D.int 9, D.int (10 ^ Int.toNat 6), D.int (10 ^ Int.toNat 30), D.int 2] bent = some (.int wd) ∧ 1 ≤ wd ∧ wd ≤ 10 ^ 30 := by
    rcases e3 with rfl | rfl | rfl | rfl | rfl
    · exact ⟨3, rfl, by decide, by decide⟩
    · exact ⟨9, rfl, by decide, by decide⟩
    · exact ⟨10 ^ Int.toNat 6, rfl, by decide, by decide⟩
    · exact ⟨10 ^ Int.toNat 30, rfl, by decide, by decide⟩
    · exact ⟨2, rfl, by decide, by decide⟩
  obtain ⟨wd, hwd, hw1, hw2⟩ := pick
  refine ⟨_, hwd, ?_⟩
  walk_at "g"
  refine ws_setLC (i := 5) N rfl rfl (lc_lc N (by walk_at "tg") (by walk_at "ok") (wi_range1 rfl (by assumption) ?_))
  walk_at "g"
  refine ⟨by omega, by omega, fun i acc M' => ∃ (cs : List Int) (L' : List D), acc = cs.map D.int ∧ cs.length = i ∧ (∀ c ∈ cs, c.natAbs ≤ 10 ^ 30) ∧ M' = M.set k (b, .lst L') ∧ StoreL (n + 2 + i) L', ?_, fun _ _ _ _ _ _ => trivial, ?_, ?_⟩
  · exact ⟨[], L2, rfl, rfl, by simp, rfl, hL2⟩
  · rintro i d acc M' p' hd ⟨cs, L', rfl, rfl, hs, rfl, hL'⟩
    obtain ⟨hi, rfl⟩ := rangeD_inv hd
    refine ⟨_, rfl, fun B => ?_⟩
    walk_at "g"
    refine tpick (by omega) (by omega) (cl_skip (cl_set hM ⟨_, hL', by omega, fun r L'' hr0 hr1 hL'' => ?_⟩))
    walk_at "g"
    · refine ⟨_, _, rfl, ?_, cs ++ [r - wd], L'', by simp, by simp, ?_, rfl, hL''⟩
      · rw [List.length_map, sizeLine_eq]; omega
      · intro z hz
        rcases List.mem_append.mp hz with hz | hz
        · exact hs z hz
        · rw [List.mem_singleton.mp hz]; omega
    all_goals exact IntMulOk.of_left (by decide)
  · rintro acc M' p1 ⟨cs, L3, rfl, hcl, hcs, rfl, hL3⟩
    rw [rangeD_len] at hcl hL3
    refine wb_cons (ws_mid (fun δ' M' => ∃ (p : Addr) (cs : List Int) (rest : Cells) (L' : List D), δ' = [some (.cel b), some (.int m), some (.int (1 + r1)), some (.int bent), some (.int wd), some (.cel p), none, none] ∧
      M' = (p, .lst (cs.map D.int)) :: (rest ++ M.set k (b, .lst L')) ∧ (cs.length : Int) = 1 + r1 ∧ (∀ c ∈ cs, c.natAbs ≤ 10 ^ 30) ∧ StoreL (n + 90) L') ?_ ?_)
    · walk_at "g"
      refine iteD (fun h4 => ?_) (fun h4 => ?_)
      · walk_at "g"
        refine ws_setLC (i := 5) N rfl rfl (lc_lc N (by walk_at "tg") (by walk_at "ok") (wi_list ?_))
        walk_at "g"
        have hz : ((cs.map D.int).length) = cs.length := by rw [List.length_map]
        refine ⟨_, .c 0 rfl, fun i acc M' => ∃ (es : List Int) (L' : List D), acc = es.map D.int ∧ es.length = i ∧ (∀ c ∈ es, c.natAbs ≤ 10 ^ 30) ∧ M' = (p1, .lst (cs.map D.int)) :: M.set k (b, .lst L') ∧ StoreL (n + 44 + i) L', ?_, ?_, ?_, ?_⟩
        · exact ⟨[], L3, rfl, rfl, by simp, rfl, hL3.up (by omega)⟩
        · rintro i acc M' p' _ ⟨es, L', rfl, rfl, hs, rfl, hL'⟩
          exact .c 1 rfl
        · rintro i d acc M' p' hd ⟨es, L', rfl, rfl, hs, rfl, hL'⟩
          have hil : es.length < cs.length := by have := (List.getElem?_eq_some_iff.mp hd).1; rwa [List.length_map] at this
          obtain ⟨y, hy, rfl⟩ := List.mem_map.mp (List.mem_of_getElem? hd)
          have hyb := hcs y hy
          refine ⟨_, rfl, fun B => ?_⟩
          walk_at "g"
          refine tpick (by decide) (by decide) (cl_skip (cl_skip (cl_set hM ⟨_, hL', by omega, fun r L'' hr0 hr1 hL'' => ?_⟩)))
          walk_at "g"
          refine .inr (.inl ⟨_, rfl, ?_⟩)
          walk_at "g"
          · refine IntMulOk.of_right ?_
            split <;> decide
          · refine ⟨_, _, rfl, ?_, es ++ [y * (if decide (r = 0) then 1 else 0)], L'', by simp, by simp, ?_, rfl, hL''⟩
            · rw [List.length_map, sizeLine_eq]; omega
            · intro z hz
              rcases List.mem_append.mp hz with hz | hz
              · exact hs z hz
              · rw [List.mem_singleton.mp hz]
                split <;> simp <;> omega
        · rintro acc M' p2 ⟨es, L5, rfl, hel, hes, rfl, hL5⟩
          rw [hz] at hel
          exact ⟨p2, es, [(p1, .lst (cs.map D.int))], L5, rfl, rfl, by omega, hes, hL5.up (by omega)⟩
      · walk_at "g"
        exact ⟨p1, cs, [], L3, rfl, rfl, by omega, hcs, hL3.up (by omega)⟩
    · rintro δ' M' ⟨p, cs, rest, L4, rfl, rfl, hcl, hcs, hL4⟩
      refine wb_drop (.cons_cons _ (List.sublist_append_right _ _)) ?_
      walk_at "g"
      refine ws_for N (wi_range1 rfl (by assumption) ?_)
      walk_at "g"
      refine tpick (by decide) (by decide) (cl_skip (cl_set hM ⟨_, hL4, by omega, fun r2 L5 h20 h21 hL5 => ?_⟩))
      walk_at "g"
      refine ⟨by omega, by omega, fun j δ' M' => ∃ (x6 : Option D) (es : List Int), δ' = [some (.cel b), some (.int m), some (.int (1 + r1)), some (.int bent), some (.int wd), some (.cel p), x6, none] ∧
        M' = (p, .lst (es.map D.int)) :: M.set k (b, .lst L5) ∧ (es.length : Int) = 1 + r1 ∧ (∀ c ∈ es, c.natAbs ≤ 10 ^ 30), ?_, fun _ _ _ _ _ => trivial, ?_, ?_⟩
      · exact ⟨none, cs, rfl, rfl, hcl, hcs⟩
      · rintro j d δ' M' hd ⟨x6, es, rfl, rfl, hel, hes⟩
        obtain ⟨hj, rfl⟩ := rangeD_inv hd
        have put : ∀ i : Nat, i < es.length → ∀ c ∈ es.set i 0, c.natAbs ≤ 10 ^ 30 := fun i _ c hc => by
          rcases List.mem_or_eq_of_mem_set hc with h | h
          · exact hes c h
          · rw [h]; decide
        walk_at "g"
        refine iteD (fun hlt => ?_) (fun hlt => ?_)
        · walk_at "g"
          have hi : es.length - 1 - j < es.length := by omega
          refine ⟨es.length - 1 - j, ?_, ?_⟩
          · rw [List.length_map, show 1 + r1 - 1 - (0 + (j : Nat)) = ((es.length - 1 - j : Nat) : Int) by omega]
            exact ixN_at hi
          · refine ⟨_, es.set (es.length - 1 - j) 0, rfl, by rw [← List.map_set], by rw [List.length_set]; exact hel, put _ hi⟩
        · walk_at "g"
          have hi : 0 < es.length := by omega
          refine ⟨0, ?_, ?_⟩
          · rw [List.length_map]
            exact ixN_at (j := 0) hi
          · refine ⟨_, es.set 0 0, rfl, by rw [← List.map_set], by rw [List.length_set]; exact hel, put _ hi⟩
      · rintro δ' M' ⟨x6, es, rfl, rfl, hel, hes⟩
        refine wb_one (ws_ret (we_froz 0 ?_))
        walk_at "g"
        refine ⟨p, _, rfl, rfl, ?_⟩
        exact q es L5 ⟨fun e => by rw [e] at hel; simp at hel; omega, by omega, fun c hc => Nat.le_trans (hes c hc) (by decide)⟩ (hL5.up (by omega))
  all_goals exact ⟨by decide, by have := intBits_le (i := 10) (n := 4) (by decide); omega⟩
end
/-! AlgY -/
set_option exponentiation.threshold 100000
def TLcL : TSp := fun ds M Q _ => ∃ k : Nat, ds = [.int k] ∧ k ≤ 60 ∧ Q (.int (lc k)) M
theorem TLcL_mono : Mono TLcL := fun ds M Q Q' E E' h _ ⟨i, h1, h3, h2⟩ => ⟨i, h1, h3, h _ _ h2⟩
theorem TLcL_len : ∀ ds M Q E, TLcL ds M Q E → ds.length = 1 := fun ds M Q E h => by obtain ⟨_, rfl, _⟩ := h; rfl
section
variable {P : Program} {w : World} {K : PySem.W.Frag} {mg : Str → Option Value} {base : Heap}
local macro_rules
  | `(tactic| walk_at "ok") => `(tactic| first
  | ((show BlkOk N_l_common (defScope st_l_common) _ _); exact blkOk_by (by decide +kernel)))
  | `(tactic| walk_at "tS") => `(tactic| first
  | ((with_reducible refine gS "_law_found" ?_); refine ws_st 1 ?_))
  | `(tactic| walk_at "tG") => `(tactic| first
  | ((with_reducible refine gG "_law_number_here" ?_); refine wg_nm 2 ?_)
  | ((with_reducible refine gG "_law_one" ?_); refine wg_nm 3 ?_)
  | ((with_reducible refine gG "_law_two" ?_); refine wg_nm 4 ?_))
  | `(tactic| walk_at "eWECall") => `(tactic| first
  | ((with_reducible refine gC "int" ?_); refine we_int2 rfl (by assumption) ?_))
  | `(tactic| walk_at "n") => `(tactic| first
  | ((with_reducible refine gN "_law_found" ?_); refine we_nm 1 rfl rfl ?_)
  | ((with_reducible refine gN "_law_two" ?_); refine we_nm 4 rfl rfl ?_)
  | ((with_reducible refine gN "_law_number_here" ?_); refine we_nm 2 rfl rfl ?_)
  | ((with_reducible refine gN "_law_one" ?_); refine we_nm 3 rfl rfl ?_)
  | ((with_reducible refine gN "_law_upto" ?_); refine we_nm 0 rfl rfl ?_)
  | ((with_reducible show WE _ _ (Expr.Name "int" _) _ _ _); refine we_bltn (v := .ty "int") rfl (by assumption) (by decide +kernel) rfl ?_))
  | `(tactic| walk_at "t") => `(tactic| first
  | ((with_reducible show WS _ _ (Stmt.Assign [Expr.Name _ _] _ _) _ _ _); walk_at "tS")
  | ((with_reducible show WG _ _ (Expr.Name _ _) _ _ _ _); walk_at "tG")
  | ((with_reducible show WS _ _ (Stmt.Assign [Expr.Tuple [Expr.Name "_law_one" _, Expr.Name "_law_two" _] _ _] (Expr.Tuple _ _ _) _) _ _ _); first | refine ws_par (i := 3) (j := 4) (by assumption) rfl rfl (by decide) rfl rfl rfl ?_ | refine ws_asg ?_)
  | ((with_reducible show WS _ _ (Stmt.Assign [Expr.Tuple [Expr.Name "_law_one" _, Expr.Name "_law_two" _] _ _] (Expr.Tuple _ _ _) _) _ _ _); first | refine ws_par (i := 3) (j := 4) (by assumption) rfl rfl (by decide) rfl rfl rfl ?_ | refine ws_asg ?_)
  | ((with_reducible show WS _ _ (Stmt.Assign [Expr.Tuple _ _ _] _ _) _ _ _); refine ws_asg ?_))
theorem fn_common {f : Addr} {fd : FuncData} (b_int : mg "int" = none) (b_range : mg "range" = none) (Fn : L2.Fun K "_law_common" "_law_common" st_l_common f fd) :
    FnOk P w K mg base (L2.CX P w) 1 f fd ["_law_upto"] (spG K TLcL) := by
  refine fn_ok Fn sc_l_common rfl TLcL_len ?_
  intro cdv A outer s H E N hr ds M Q X' h
  obtain ⟨k, rfl, hk, q⟩ := h
  show WB _ _ _ [some _, none, none, none, none] _ _
  refine wb_cons ?_
  walk_at "g"
  refine ws_for N (wi_range2 rfl (by assumption) ?_)
  walk_at "g"
  refine ⟨_, _, rfl, ⟨by omega, by omega, by omega, by omega⟩, fun j δ' M' => ∃ x2 x3 x4 : Option D, δ' = [some (.int k), some (.int (lc (j + 1))), x2, x3, x4] ∧ M' = M, ?_, fun _ _ _ _ _ => trivial, ?_, ?_⟩
  · exact ⟨none, none, none, rfl, rfl⟩
  · rintro j d δ' M' hd ⟨x2, x3, x4, rfl, rfl⟩
    obtain ⟨hj, rfl⟩ := rangeD_inv hd
    have hjk : j + 2 ≤ k := by omega
    have e2 : (2 : Int) + (j : Nat) = ((j + 1 : Nat) : Int) + 1 := by omega
    rw [e2]
    have hg0 := gcd_pos' (a := lc (j + 1)) (b := ((j + 1 : Nat) : Int) + 1) (by omega)
    have hg1 : ((Int.gcd (lc (j + 1)) (((j + 1 : Nat) : Int) + 1) : Nat) : Int) ≤ ((j + 1 : Nat) : Int) + 1 := Int.le_of_dvd (by omega) (Int.gcd_dvd_right _ _)
    have hst : lc (j + 1) / ((Int.gcd (lc (j + 1)) (((j + 1 : Nat) : Int) + 1) : Nat) : Int) * (((j + 1 : Nat) : Int) + 1) = lc (j + 2) := mstep_eq _ _
    walk_at "g"
    refine ⟨_, _, rfl, ?_⟩
    refine wb_cons ?_
    refine ws_while N (fun m δ' M'' => ∃ u v : Int, δ' = [some (.int k), some (.int (lc (j + 1))), some (.int (((j + 1 : Nat) : Int) + 1)), some (.int u), some (.int v)] ∧ M'' = M' ∧ 0 ≤ u ∧ 0 ≤ v ∧ Int.gcd u v = Int.gcd (lc (j + 1)) (((j + 1 : Nat) : Int) + 1) ∧ m = v.toNat) ⟨_, lc (j + 1), _, rfl, rfl, by have := lc_pos (j + 1); omega, by omega, rfl, rfl⟩ ?_
    rintro m δ' M'' ⟨u, v, rfl, rfl, hu, hv, hg, rfl⟩
    walk_at "g"
    refine iteD (fun hpos => ?_) (fun hpos => ?_)
    · walk_at "g"
      rotate_left 1
      · exact hpos
      refine ⟨_, _, rfl, ?_⟩
      refine ⟨_, ?_, v, u % v, rfl, rfl, hv, Int.emod_nonneg _ (by omega), ?_, rfl⟩
      · have := Int.emod_lt_of_pos u hpos
        have := Int.emod_nonneg u (show v ≠ 0 by omega)
        omega
      · rw [← hg, gcd_mod0 hu hpos]
    · have hv0 : v = 0 := by omega
      subst hv0
      have hu2 : u = ((Int.gcd (lc (j + 1)) (((j + 1 : Nat) : Int) + 1) : Nat) : Int) := by
        rw [← hg, Int.gcd_zero_right]; omega
      subst hu2
      walk_at "g"
      all_goals first
        | exact ⟨_, _, _, by rw [hst]; rfl, rfl⟩
        | exact IntMulOk.of_right (by have := intBits_le (i := ((j + 1 : Nat) : Int) + 1) (n := 10) (by omega); omega)
        | exact ⟨hg0, by have := log2_lt (i := ((Int.gcd (lc (j + 1)) (((j + 1 : Nat) : Int) + 1) : Nat) : Int)) (n := 10) (by omega) (by decide); omega⟩
        | skip
      all_goals trace_state
  · rintro δ' M' ⟨x2, x3, x4, rfl, rfl⟩
    rw [rangeD_len]
    walk_at "g"
    have : lc ((((k : Nat) : Int) + 1 - 2).toNat + 1) = lc k := by
      rcases Nat.lt_or_ge k 2 with h | h
      · have : k = 0 ∨ k = 1 := by omega
        rcases this with rfl | rfl <;> rfl
      · congr 1; omega
    rw [this]
    exact q
end
def TBin : TSp := fun ds M Q _ => ∃ (x : Int) (k a : Nat), ds = [.int x, .int k] ∧ k ≤ 60 ∧ x.natAbs + 60 ≤ 2 ^ a ∧ a * 60 ≤ 1000000 ∧ Q (.int (bin x k)) M
theorem TBin_mono : Mono TBin := fun ds M Q Q' E E' h _ ⟨x, i, a, h1, h3, h4, h5, h2⟩ => ⟨x, i, a, h1, h3, h4, h5, h _ _ h2⟩
theorem TBin_len : ∀ ds M Q E, TBin ds M Q E → ds.length = 2 := fun ds M Q E h => by obtain ⟨_, _, _, rfl, _⟩ := h; rfl
section
variable {P : Program} {w : World} {K : PySem.W.Frag} {mg : Str → Option Value} {base : Heap}
local macro_rules
  | `(tactic| walk_at "ok") => `(tactic| first
  | ((show BlkOk N_l_chosen (defScope st_l_chosen) _ _); exact blkOk_by (by decide +kernel)))
  | `(tactic| walk_at "tG") => `(tactic| first
  | ((with_reducible refine gG "_law_top" ?_); refine wg_nm 2 ?_)
  | ((with_reducible refine gG "_law_bottom" ?_); refine wg_nm 3 ?_)
  | ((with_reducible refine gG "_law_turn" ?_); refine wg_nm 4 ?_))
  | `(tactic| walk_at "n") => `(tactic| first
  | ((with_reducible refine gN "_law_top" ?_); refine we_nm 2 rfl rfl ?_)
  | ((with_reducible refine gN "_law_bottom" ?_); refine we_nm 3 rfl rfl ?_)
  | ((with_reducible refine gN "_law_turn" ?_); refine we_nm 4 rfl rfl ?_)
  | ((with_reducible refine gN "_law_spot_here" ?_); refine we_nm 0 rfl rfl ?_)
  | ((with_reducible refine gN "_law_upto" ?_); refine we_nm 1 rfl rfl ?_))
  | `(tactic| walk_at "t") => `(tactic| first
  | ((with_reducible show WG _ _ (Expr.Name _ _) _ _ _ _); walk_at "tG")
  | ((with_reducible show WS _ _ (Stmt.Assign [Expr.Tuple [Expr.Name "_law_top" _, Expr.Name "_law_bottom" _] _ _] (Expr.Tuple _ _ _) _) _ _ _); first | refine ws_par (i := 2) (j := 3) (by assumption) rfl rfl (by decide) rfl rfl rfl ?_ | refine ws_asg ?_)
  | ((with_reducible show WS _ _ (Stmt.Assign [Expr.Tuple [Expr.Name "_law_top" _, Expr.Name "_law_bottom" _] _ _] (Expr.Tuple _ _ _) _) _ _ _); first | refine ws_par (i := 2) (j := 3) (by assumption) rfl rfl (by decide) rfl rfl rfl ?_ | refine ws_asg ?_)
  | ((with_reducible show WS _ _ (Stmt.Assign [Expr.Tuple _ _ _] _ _) _ _ _); refine ws_asg ?_))
theorem fn_chosen {f : Addr} {fd : FuncData} (b_range : mg "range" = none) (Fn : L2.Fun K "_law_chosen" "_law_chosen" st_l_chosen f fd) :
    FnOk P w K mg base (L2.CX P w) 1 f fd ["_law_spot_here", "_law_upto"] (spG K TBin) := by
  refine fn_ok Fn sc_l_chosen rfl TBin_len ?_
  intro cdv A outer s H E N hr ds M Q X' h
  obtain ⟨x, k, a, rfl, hk, hx, ha, q⟩ := h
  have fb : ∀ j : Nat, j ≤ 60 → Builtin.Int.intBits (fal x j) ≤ 2 ^ 20 := fun j hj => bits_of (n := a * 60) (Nat.le_trans (fal_bd hx j hj) (Nat.pow_le_pow_right (by decide) (Nat.mul_le_mul_left _ hj))) (by omega)
  have kb : ∀ j : Nat, j ≤ 60 → (fac j).natAbs ≤ 2 ^ 360 := fun j hj => abs_le_two (by have := fac_pos j; omega) (Int.le_trans (fac_bd j (by omega)) (by
    have : (2 : Nat) ^ (6 * j) ≤ 2 ^ 360 := Nat.pow_le_pow_right (by decide) (by omega)
    have a := two_pow (n := 6 * j)
    have b := two_pow (n := 360)
    omega))
  have xb : ∀ j : Nat, j ≤ 60 → Builtin.Int.intBits (x - (j : Int)) ≤ 2 ^ 20 := fun j hj => bits_of (n := a) (by omega) (by omega)
  show WB _ _ _ [some _, some _, none, none, none] _ _
  refine wb_cons ?_
  walk_at "g"
  refine ws_for N (wi_range1 rfl (by assumption) ?_)
  walk_at "g"
  refine ⟨by omega, by omega, fun j δ' M' => ∃ x4 : Option D, δ' = [some (.int x), some (.int k), some (.int (fal x j)), some (.int (fac j)), x4] ∧ M' = M, ?_, fun _ _ _ _ _ => trivial, ?_, ?_⟩
  · exact ⟨none, rfl, rfl⟩
  · rintro j d δ' M' hd ⟨x4, rfl, rfl⟩
    obtain ⟨hj, rfl⟩ := rangeD_inv hd
    have hj2 : j < k := by omega
    rw [show (0 : Int) + (j : Nat) = (j : Nat) by omega]
    walk_at "g"
    all_goals first
      | (refine ⟨_, _, rfl, ?_⟩; exact ⟨_, rfl, rfl⟩)
      | exact IntMulOk.of_bits (fb j (by omega)) (xb j (by omega))
      | exact IntMulOk.of_right (by have := intBits_le (i := (j : Int) + 1) (n := 10) (by omega); omega)
      | skip
    all_goals trace_state
  · rintro δ' M' ⟨x4, rfl, rfl⟩
    rw [rangeD_len]
    have hlog := log2_lt (i := fac k) (n := 361) (Nat.lt_of_le_of_lt (kb k hk) (Nat.pow_lt_pow_right (by decide) (by decide))) (by decide)
    rw [show ((k : Nat) : Int).toNat = k by omega]
    walk_at "g"
    all_goals first
      | exact q
      | exact ⟨fac_pos _, by omega⟩
end
/-! AlgZ -/
set_option exponentiation.threshold 100000
def kNz : D → Bool
  | .tup [.int _, .int c] => !decide (c = 0)
  | _ => false
def fTm (x : Int) : D → D
  | .tup [.int k, .int c] => .int (c * lc k.toNat * bin x k.toNat)
  | _ => .non
def terms (r : List Int) (x : Int) (n : Nat) : List Int := ((List.range n).filter fun k => !decide (r.getD k 0 = 0)).map fun k => r.getD k 0 * lc k * bin x k
theorem terms_sum (r : List Int) (x : Int) : ∀ n, (terms r x n).sum = valTo r x n
  | 0 => rfl
  | n + 1 => by
    have ih := terms_sum r x n
    unfold terms at ih ⊢
    rw [List.range_succ, List.filter_append, List.map_append, List.sum_append, ih]
    show _ = valTo r x n + r.getD n 0 * lc n * bin x n
    by_cases h : r.getD n 0 = 0
    · rw [List.filter_cons_of_neg (by rw [decide_eq_true h]; decide), h]
      simp
    · rw [List.filter_cons_of_pos (by rw [decide_eq_false h]; rfl)]
      simp
theorem enum_map (r : List Int) : enumD (r.map D.int) = (List.range r.length).map fun k => D.tup [.int (k : Nat), .int (r.getD k 0)] := by
  refine List.ext_getElem? fun i => ?_
  by_cases hi : i < r.length
  · rw [enumD_get (getD_get hi), List.getElem?_map, List.getElem?_range hi]; rfl
  · rw [List.getElem?_eq_none (by rw [enumD_len, List.length_map]; omega), List.getElem?_eq_none (by rw [List.length_map, List.length_range]; omega)]
theorem terms_D (r : List Int) (x : Int) : ((enumD (r.map D.int)).filter kNz).map (fTm x) = (terms r x r.length).map D.int := by
  rw [enum_map]
  unfold terms
  rw [List.filter_map, List.map_map, List.map_map]
  rfl
def TValL : TSp := fun ds M Q _ => ∃ (d : D) (r : List Int) (x : Int) (L B a : Nat), ds = [d, .int x] ∧ LV M d (r.map D.int) ∧ Fm L B r ∧ L ≤ 60 ∧ x.natAbs + 60 ≤ 2 ^ a ∧ vb 60 B a ≤ 1000000 ∧ Q (.int (valF r x)) M
theorem TValL_mono : Mono TValL := fun ds M Q Q' E E' h _ ⟨d, r, x, L, B, a, h1, h2, h3, h4, h5, h6, h7⟩ => ⟨d, r, x, L, B, a, h1, h2, h3, h4, h5, h6, h _ _ h7⟩
theorem TValL_len : ∀ ds M Q E, TValL ds M Q E → ds.length = 2 := fun ds M Q E h => by obtain ⟨_, _, _, _, _, _, rfl, _⟩ := h; rfl
section
variable {P : Program} {w : World} {K : PySem.W.Frag} {mg : Str → Option Value} {base : Heap}
local macro_rules
  | `(tactic| walk_at "ok") => `(tactic| first
  | ((show BlkOk N_l_value (defScope st_l_value) _ _); exact blkOk_by (by decide +kernel)))
  | `(tactic| walk_at "tG") => `(tactic| first
  | ((with_reducible refine gG "_law_k" ?_); refine wg_nm 2 ?_)
  | ((with_reducible refine gG "_law_item" ?_); refine wg_nm 3 ?_))
  | `(tactic| walk_at "eWECall") => `(tactic| first
  | ((with_reducible refine gC "sum" ?_); refine we_sum rfl rfl (by assumption) ?_)
  | ((with_reducible show WE _ _ (Expr.Call (Expr.Name _ _) _ _ _) _ _ _); walk_at "c"))
  | `(tactic| walk_at "n") => `(tactic| first
  | ((with_reducible refine gN "_law_k" ?_); refine we_nm 2 rfl rfl ?_)
  | ((with_reducible refine gN "_law_item" ?_); refine we_nm 3 rfl rfl ?_)
  | ((with_reducible refine gN "_law_row_here" ?_); refine we_nm 0 rfl rfl ?_)
  | ((with_reducible refine gN "_law_spot_here" ?_); refine we_nm 1 rfl rfl ?_))
  | `(tactic| walk_at "t") => `(tactic| first
  | ((with_reducible show WG _ _ (Expr.Name _ _) _ _ _ _); walk_at "tG")
  | ((with_reducible show WS _ _ (Stmt.Assign [Expr.Tuple _ _ _] _ _) _ _ _); refine ws_asg ?_))
  | `(tactic| walk_at "c") => `(tactic| first
  | ((with_reducible refine gCK "_law_chosen" ?_); refine we_cl "_law_chosen" ?_)
  | ((with_reducible refine gCK "_law_common" ?_); refine we_cl "_law_common" ?_))
  | `(tactic| walk_at "tg") => `(tactic| first
  | exact Tg.two (i := 2) (j := 3) rfl rfl (by decide) rfl rfl)
theorem fn_value {f : Addr} {fd : FuncData} (b_enum : mg "enumerate" = none) (b_sum : mg "sum" = none) (d_common : FD P w K mg base 1 "_law_common" 1 TLcL) (d_chosen : FD P w K mg base 1 "_law_chosen" 2 TBin) (Fn : L2.Fun K "_law_value" "_law_value" st_l_value f fd) :
    FnOk P w K mg base (L2.CX P w) 2 f fd ["_law_row_here", "_law_spot_here"] (spG K TValL) := by
  refine fn_ok Fn sc_l_value rfl TValL_len ?_
  intro cdv A outer s H E N hr ds M Q X' h
  obtain ⟨d, r, x, L, B, a, rfl, hl, hf, hL, hx, hv, q⟩ := h
  have hlen := hf.len
  have ha : a * 60 ≤ 1000000 := by unfold vb at hv; omega
  show WB _ _ _ [some _, some _, none, none] _ _
  refine wb_one (ws_ret ?_)
  refine we_sum N.calm rfl (by assumption) (wa_cons (we_froz 0 (we_lcF kNz (fTm x) N (by walk_at "tg") (by walk_at "ok") (wi_enum rfl (by assumption) ?_))))
  walk_at "g"
  refine ⟨_, r.map D.int, rfl, hl, ?_, fun _ _ => hl.cons, ?_, ?_⟩
  · rw [enumD_len, List.length_map, sizeLine_eq]; omega
  · intro j d' acc p hd
    obtain ⟨u, hu, rfl⟩ := enumD_inv hd
    have hj : j < r.length := by have := (List.getElem?_eq_some_iff.mp hu).1; rwa [List.length_map] at this
    rw [getD_get hj] at hu
    obtain rfl := (Option.some.inj hu).symm
    have hc := fm_get hf j
    have hl4 : (lc j).natAbs ≤ 2 ^ 400 := abs_le_two (by have := lc_pos j; omega) (lc_400 (by omega))
    refine ⟨_, ⟨_, _, rfl, rfl⟩, fun B' => ?_⟩
    walk_at "g"
    refine ⟨rfl, rfl, fun _ B' => ?_⟩
    walk_at "g"
    refine ⟨j, rfl, by omega, ?_⟩
    walk_at "g"
    refine ⟨x, j, a, rfl, by omega, hx, ha, ?_⟩
    walk_at "g"
    all_goals first
      | exact ⟨rfl, rfl⟩
      | rfl
      | exact IntMulOk.of_bits (bits_of hc (by unfold vb at hv; omega)) (bits_of hl4 (by decide))
      | exact IntMulOk.of_bits (bits_of (n := B + 400) (by rw [Int.natAbs_mul, Nat.pow_add]; exact Nat.mul_le_mul hc hl4) (by unfold vb at hv; omega)) (bits_of (bin_bits hx (by omega)) (by omega))
      | skip
    all_goals trace_state
  · intro p
    refine ⟨p, _, rfl, rfl, ?_⟩
    walk_at "g"
    refine ⟨_, terms r x r.length, rfl, by rw [terms_D]; exact .l, ?_⟩
    rw [terms_sum]
    exact q
end
def TBare : TSp := fun ds M Q _ => ∃ (d : D) (r : List Int), ds = [d] ∧ LV M d (r.map D.int) ∧ r ≠ [] ∧ r.length ≤ 100 ∧ ∀ s : List Int, IsPlain s → (∀ x, valF s x = valF r x) → s.length ≤ r.length → (∀ c ∈ s, c ∈ r) → Q (.lst (s.map D.int)) M
theorem TBare_mono : Mono TBare := fun ds M Q Q' E E' h _ ⟨d, r, h1, h2, h3, h4, h5⟩ => ⟨d, r, h1, h2, h3, h4, fun s a b c e => h _ _ (h5 s a b c e)⟩
theorem TBare_len : ∀ ds M Q E, TBare ds M Q E → ds.length = 1 := fun ds M Q E h => by obtain ⟨_, _, rfl, _⟩ := h; rfl
theorem atI_last {ds : List D} {z : D} (h0 : 0 < ds.length) (h : ds[ds.length - 1]? = some z) : atI ds (-1) = some z := by
  unfold atI ixN
  rw [if_neg (by decide), if_pos (by omega)]
  show ds[(-1 + (ds.length : Int)).toNat]? = some z
  rw [show (-1 + (ds.length : Int)).toNat = ds.length - 1 by omega]
  exact h
section
variable {P : Program} {w : World} {K : PySem.W.Frag} {mg : Str → Option Value} {base : Heap}
local macro_rules
  | `(tactic| walk_at "ok") => `(tactic| first
  | ((show BlkOk N_l_bare (defScope st_l_bare) _ _); exact blkOk_by (by decide +kernel)))
  | `(tactic| walk_at "tS") => `(tactic| first
  | ((with_reducible refine gS "_law_found" ?_); refine ws_st 1 ?_))
  | `(tactic| walk_at "eWECall") => `(tactic| first
  | ((with_reducible refine gC "list" ?_); refine we_list rfl (by assumption) ?_)
  | ((with_reducible refine gC "len" ?_); refine we_len rfl (by assumption) ?_))
  | `(tactic| walk_at "n") => `(tactic| first
  | ((with_reducible refine gN "_law_found" ?_); refine we_nm 1 rfl rfl ?_)
  | ((with_reducible refine gN "_law_row_here" ?_); refine we_nm 0 rfl rfl ?_)
  | ((with_reducible show WE _ _ (Expr.Name "list" _) _ _ _); refine we_bltn (v := .ty "list") rfl (by assumption) (by decide +kernel) rfl ?_))
  | `(tactic| walk_at "t") => `(tactic| first
  | ((with_reducible show WS _ _ (Stmt.Assign [Expr.Name _ _] _ _) _ _ _); walk_at "tS")
  | ((with_reducible show WS _ _ (Stmt.Assign [Expr.Tuple _ _ _] _ _) _ _ _); refine ws_asg ?_))
theorem fn_bare {f : Addr} {fd : FuncData} (b_len : mg "len" = none) (b_list : mg "list" = none) (Fn : L2.Fun K "_law_bare" "_law_bare" st_l_bare f fd) :
    FnOk P w K mg base (L2.CX P w) 1 f fd ["_law_row_here"] (spG K TBare) := by
  refine fn_ok Fn sc_l_bare rfl TBare_len ?_
  intro cdv A outer s H E N hr ds M Q X' h
  obtain ⟨d, r, rfl, hl, h0, h100, q⟩ := h
  have hpos : 0 < r.length := List.length_pos_iff.mpr h0
  show WB _ _ _ [some _, none] _ _
  refine wb_cons ?_
  walk_at "t"
  refine we_listC rfl (by assumption) ?_
  walk_at "g"
  refine ⟨_, r.map D.int, rfl, .inl hl, fun p => ?_⟩
  walk_at "g"
  refine ws_while N (fun m δ' M' => δ' = [some d, some (.cel p)] ∧ M' = (p, .lst ((r.take m).map D.int)) :: M ∧ 1 ≤ m ∧ m ≤ r.length ∧ ∀ j, m ≤ j → r.getD j 0 = 0) ⟨r.length, rfl, by rw [List.take_length], hpos, Nat.le_refl _, fun j hj => getD_out hj⟩ ?_
  rintro m δ' M' ⟨rfl, rfl, hm1, hm2, hz⟩
  have ht : (r.take m).length = m := by rw [List.length_take]; omega
  have fin : IsPlain (r.take m) → Q (.lst ((r.take m).map D.int)) M := fun hp => q _ hp (valF_take hz) (by rw [ht]; omega) fun c hc => List.mem_of_mem_take hc
  walk_at "g"
  rw [List.length_map, ht]
  refine iteD (fun h1 => ?_) (fun h1 => ?_)
  · have hget : ((r.take m).map D.int)[((r.take m).map D.int).length - 1]? = some (.int (r.getD (m - 1) 0)) := by
      rw [List.length_map, ht, getD_get (by rw [ht]; omega), getD_take hz]
    walk_at "g"
    refine ⟨_, atI_last (by rw [List.length_map, ht]; omega) hget, ?_⟩
    walk_at "g"
    refine iteD (fun h2 => ?_) (fun h2 => ?_)
    · refine wb_one (ws_expr (we_pop ?_))
      walk_at "g"
      refine ⟨p, 0, _, _, rfl, rfl, hget, ?_⟩
      refine ⟨m - 1, by omega, rfl, ?_, by omega, by omega, fun j hj => ?_⟩
      · show (p, Cell.lst ((r.take m).map D.int).dropLast) :: M = _
        rw [← List.map_dropLast, List.dropLast_eq_take, ht, List.take_take, Nat.min_eq_left (by omega)]
      · by_cases e : j = m - 1
        · rw [e]; exact h2
        · exact hz j (by omega)
    · walk_at "s"
      refine ws_ret (we_froz 0 ?_)
      walk_at "g"
      refine ⟨p, _, rfl, rfl, ?_⟩
      refine fin ⟨fun e => by rw [e] at ht; simp at ht; omega, .inr ?_⟩
      rw [ht, getD_take hz]
      exact h2
  · walk_at "e"
    walk_at "s"
    refine ws_ret (we_froz 0 ?_)
    walk_at "g"
    refine ⟨p, _, rfl, rfl, ?_⟩
    exact fin ⟨fun e => by rw [e] at ht; simp at ht; omega, .inl (by rw [ht]; omega)⟩
end
/-! FfC -/
set_option exponentiation.threshold 100000
/-- the law's own formula by values -/
def TMade : TSp := fun ds M Q _ => ∃ (d : D) (f : Int → Int) (n : Nat), ds = [d] ∧ LV M d (intsD (fun i => f (i : Nat)) n) ∧ 1 ≤ n ∧ n ≤ 60 ∧ Keeps f ∧ Deg n f ∧ ∀ s : List Int, IsPlain s → (∀ x, valF s x = f x) → Q (.lst (s.map D.int)) M
theorem TMade_mono : Mono TMade := fun ds M Q Q' E E' h _ ⟨d, f, n, h1, h2, h3, h4, h5, h6, h7⟩ => ⟨d, f, n, h1, h2, h3, h4, h5, h6, fun s a b => h _ _ (h7 s a b)⟩
theorem TMade_len : ∀ ds M Q E, TMade ds M Q E → ds.length = 1 := fun ds M Q E h => by obtain ⟨_, _, _, rfl, _⟩ := h; rfl
theorem coefs_step (f : Int → Int) (i : Nat) : coefs f (i + 1) = coefs f i ++ [difN i f 0 / lc i] := by
  unfold coefs
  rw [List.range_succ, List.map_append]; rfl
section
variable {P : Program} {w : World} {K : PySem.W.Frag} {mg : Str → Option Value} {base : Heap}
local macro_rules
  | `(tactic| walk_at "ok") => `(tactic| first
  | ((show BlkOk N_l_made (defScope st_l_made) _ _); exact blkOk_by (by decide +kernel)))
  | `(tactic| walk_at "tS") => `(tactic| first
  | ((with_reducible refine gS "_law_row_here" ?_); refine ws_st 2 ?_))
  | `(tactic| walk_at "tG") => `(tactic| first
  | ((with_reducible refine gG "_law_found" ?_); refine wg_nm 1 ?_)
  | ((with_reducible refine gG "_law_row_here" ?_); refine wg_nm 2 ?_)
  | ((with_reducible refine gG "_law_here" ?_); refine wg_nm 3 ?_)
  | ((with_reducible refine gG "_law_later" ?_); refine wg_nm 4 ?_))
  | `(tactic| walk_at "eWECall") => `(tactic| first
  | ((with_reducible show WE _ _ (Expr.Call (Expr.Name _ _) _ _ _) _ _ _); walk_at "c")
  | ((with_reducible refine gC "list" ?_); refine we_list rfl (by assumption) ?_)
  | ((with_reducible show WE _ _ (Expr.Call (Expr.Attribute _ "append" _) _ _ _) _ _ _); refine we_append ?_)
  | ((with_reducible refine gC "len" ?_); refine we_len rfl (by assumption) ?_))
  | `(tactic| walk_at "n") => `(tactic| first
  | ((with_reducible refine gN "_law_row_here" ?_); refine we_nm 2 rfl rfl ?_)
  | ((with_reducible refine gN "_law_found" ?_); refine we_nm 1 rfl rfl ?_)
  | ((with_reducible refine gN "_law_values_here" ?_); refine we_nm 0 rfl rfl ?_)
  | ((with_reducible refine gN "_law_here" ?_); refine we_nm 3 rfl rfl ?_)
  | ((with_reducible refine gN "_law_later" ?_); refine we_nm 4 rfl rfl ?_)
  | ((with_reducible show WE _ _ (Expr.Name "list" _) _ _ _); refine we_bltn (v := .ty "list") rfl (by assumption) (by decide +kernel) rfl ?_))
  | `(tactic| walk_at "t") => `(tactic| first
  | ((with_reducible show WS _ _ (Stmt.Assign [Expr.Name _ _] _ _) _ _ _); walk_at "tS")
  | ((with_reducible show WG _ _ (Expr.Name _ _) _ _ _ _); walk_at "tG")
  | ((with_reducible show WS _ _ (Stmt.Assign [Expr.Tuple [Expr.Name "_law_found" _, Expr.Name "_law_row_here" _] _ _] (Expr.Tuple _ _ _) _) _ _ _); first | refine ws_par (i := 1) (j := 2) (by assumption) rfl rfl (by decide) rfl rfl rfl ?_ | refine ws_asg ?_)
  | ((with_reducible show WS _ _ (Stmt.Assign [Expr.Tuple _ _ _] _ _) _ _ _); refine ws_asg ?_))
  | `(tactic| walk_at "c") => `(tactic| first
  | ((with_reducible refine gCK "_law_bare" ?_); refine we_cl "_law_bare" ?_)
  | ((with_reducible refine gCK "_law_common" ?_); refine we_cl "_law_common" ?_))
  | `(tactic| walk_at "tg") => `(tactic| first
  | exact Tg.two (i := 3) (j := 4) rfl rfl (by decide) rfl rfl)
theorem fn_made {f : Addr} {fd : FuncData} (b_len : mg "len" = none) (b_list : mg "list" = none) (b_zip : mg "zip" = none) (d_bare : FD P w K mg base 1 "_law_bare" 1 TBare) (d_common : FD P w K mg base 1 "_law_common" 1 TLcL) (Fn : L2.Fun K "_law_made" "_law_made" st_l_made f fd) :
    FnOk P w K mg base (L2.CX P w) 2 f fd ["_law_values_here"] (spG K TMade) := by
  refine fn_ok Fn sc_l_made rfl TMade_len ?_
  intro cdv A outer s H E N hr ds M Q X' h
  obtain ⟨d, g, n, rfl, hl, hn1, hn, hk, hd, q⟩ := h
  show WB _ _ _ [some _, none, none, none, none] _ _
  refine wb_cons ?_
  walk_at "g"
  refine we_lstC ?_
  walk_at "g"
  intro p
  walk_at "g"
  refine ⟨_, _, rfl, .inl hl.cons, ?_⟩
  walk_at "g"
  refine ⟨_, _, rfl, ?_⟩
  refine wb_cons ?_
  refine ws_while N (fun m δ' M' => ∃ (i : Nat) (x3 x4 : Option D), δ' = [some d, some (.cel p), some (.lst ((row n i g).map D.int)), x3, x4] ∧ M' = (p, .lst ((coefs g i).map D.int)) :: M ∧ i ≤ n ∧ m = n - i) ⟨_, 0, none, none, rfl, rfl, Nat.zero_le _, rfl⟩ ?_
  rintro m δ' M' ⟨i, x3, x4, rfl, rfl, hi, rfl⟩
  walk_at "g"
  refine req_intsN (xs := row n i g) (ys := []) .l .l ?_
  refine ⟨_, rfl, ?_⟩
  by_cases h0 : n ≤ i
  · refine iteQ (by rw [decide_eq_true (row_ne.mpr h0)]; rfl) ?_
    obtain rfl : i = n := by omega
    have hne : coefs g i ≠ [] := fun e => by have := congrArg List.length e; rw [coefs_len, List.length_nil] at this; omega
    refine wb_one (ws_ret (WE.few ?_))
    walk_at "g"
    refine ⟨_, coefs g i, rfl, .c 0 rfl, hne, by rw [coefs_len]; omega, fun s hs hv hle hm => ?_⟩
    exact ⟨M, List.sublist_cons_self _ _, q s hs fun x => by rw [hv, interp hk hd]⟩
  · refine iteP (by rw [decide_eq_false (fun z => h0 (row_ne.mp z))]; rfl) ?_
    have h00 : ((row n i g).map D.int)[0]? = some (.int (difN i g 0)) := by
      unfold row
      rw [List.getElem?_map, List.getElem?_map, List.getElem?_range (by omega)]; rfl
    walk_at "g"
    refine ⟨_, atI_nat (j := 0) h00, ?_⟩
    walk_at "g"
    refine ⟨i, by rw [List.length_map, coefs_len], by omega, ?_⟩
    refine ⟨_, _, rfl, rfl, ⟨lc_pos i, by have := log2_lt (i := lc i) (n := 401) (Nat.lt_of_le_of_lt (abs_le_two (by have := lc_pos i; omega) (lc_400 (by omega))) (Nat.pow_lt_pow_right (by decide) (by decide))) (by decide); omega⟩, ?_⟩
    walk_at "g"
    refine ⟨by rw [List.length_map, coefs_len, sizeLine_eq]; omega, ?_⟩
    have hrow : ((row n i g).map D.int).length ≤ 100 := by
      rw [List.length_map]
      unfold row
      rw [List.length_map, List.length_range]; omega
    have hints : ∀ (j : Nat) (u : D), ((row n i g).map D.int)[j]? = some u → ∃ a, u = .int a := fun j u hu => by
      obtain ⟨a, _, e⟩ := List.mem_map.mp (List.mem_of_getElem? hu)
      exact ⟨a, e.symm⟩
    walk_at "g"
    refine ws_setLC (i := 2) N rfl rfl (lc_froz 0 (lc_lcM fSub N (by walk_at "tg") (by walk_at "ok") (wi_zip rfl (by assumption) ?_)))
    walk_at "g"
    rw [cutD_1]
    walk_at "g"
    refine ⟨_, _, (row n i g).map D.int, ((row n i g).map D.int).drop 1, rfl, .l, .l, ?_, fun _ _ => ⟨.l, .l⟩, ?_, ?_⟩
    · rw [zipD_len, sizeLine_eq]; omega
    · intro j d' acc p' hd
      obtain ⟨u, v, hu, hv, rfl⟩ := zipD_inv hd
      rw [List.getElem?_drop] at hv
      obtain ⟨a, rfl⟩ := hints _ _ hu
      obtain ⟨b, rfl⟩ := hints _ _ hv
      refine ⟨_, ⟨_, _, rfl, rfl⟩, fun B => ?_⟩
      walk_at "g"
      all_goals first | exact ⟨rfl, rfl⟩ | rfl
    · intro p'
      refine ⟨p', _, rfl, rfl, ?_⟩
      refine ⟨n - (i + 1), by omega, i + 1, x3, x4, ?_, ?_, by omega, rfl⟩
      · rw [row_step]; rfl
      · rw [coefs_step, List.map_append]; rfl
end
/-- a small row, its first item apart -/
structure Modest (m : Nat) (r : List Int) : Prop where
  ne : r ≠ []
  len : r.length ≤ m
  fst : (r.getD 0 0).natAbs ≤ 5 * 10 ^ 29
  oth : ∀ k, 1 ≤ k → (r.getD k 0).natAbs ≤ 10 ^ 6
def TModest : TSp := fun ds M Q _ => ∃ (b : Addr) (m : Nat), ds = [.cel b, .int m] ∧ 1 ≤ m ∧ m ≤ 41 ∧ CL M b fun L f => ∃ n, StoreL n L ∧ n ≤ 900000 ∧ ∀ r L', Modest m r → StoreL (n + 50) L' → Q (.lst (r.map D.int)) (f L')
theorem TModest_mono : Mono TModest := fun ds M Q Q' E E' h _ ⟨b, m, h1, h2, h3, h4⟩ => ⟨b, m, h1, h2, h3, h4.imp fun L f ⟨n, g1, g2, g3⟩ => ⟨n, g1, g2, fun r L' a b => h _ _ (g3 r L' a b)⟩⟩
theorem TModest_len : ∀ ds M Q E, TModest ds M Q E → ds.length = 2 := fun ds M Q E h => by obtain ⟨_, _, rfl, _⟩ := h; rfl
section
variable {P : Program} {w : World} {K : PySem.W.Frag} {mg : Str → Option Value} {base : Heap}
local macro_rules
  | `(tactic| walk_at "ok") => `(tactic| first
  | ((show BlkOk N_l_modest (defScope st_l_modest) _ _); exact blkOk_by (by decide +kernel)))
  | `(tactic| walk_at "tS") => `(tactic| first
  | ((with_reducible refine gS "_law_wide" ?_); refine ws_st 2 ?_)
  | ((with_reducible refine gS "_law_found" ?_); refine ws_st 3 ?_))
  | `(tactic| walk_at "tG") => `(tactic| first
  | ((with_reducible refine gG "_law_turn" ?_); refine wg_nm 4 ?_))
  | `(tactic| walk_at "eWECall") => `(tactic| first
  | ((with_reducible show WE _ _ (Expr.Call (Expr.Name _ _) _ _ _) _ _ _); walk_at "c"))
  | `(tactic| walk_at "n") => `(tactic| first
  | ((with_reducible refine gN "_law_store_here" ?_); refine we_nm 0 rfl rfl ?_)
  | ((with_reducible refine gN "_law_found" ?_); refine we_nm 3 rfl rfl ?_)
  | ((with_reducible refine gN "_law_wide" ?_); refine we_nm 2 rfl rfl ?_)
  | ((with_reducible refine gN "_law_most" ?_); refine we_nm 1 rfl rfl ?_))
  | `(tactic| walk_at "t") => `(tactic| first
  | ((with_reducible show WS _ _ (Stmt.Assign [Expr.Name _ _] _ _) _ _ _); walk_at "tS")
  | ((with_reducible show WG _ _ (Expr.Name _ _) _ _ _ _); walk_at "tG")
  | ((with_reducible show WS _ _ (Stmt.Assign [Expr.Tuple _ _ _] _ _) _ _ _); refine ws_asg ?_))
  | `(tactic| walk_at "c") => `(tactic| first
  | ((with_reducible refine gCK "_law_pick" ?_); refine we_cl "_law_pick" ?_))
  | `(tactic| walk_at "tg") => `(tactic| first
  | exact Tg.one (i := 4) rfl rfl)
theorem fn_modest {f : Addr} {fd : FuncData} (b_range : mg "range" = none) (d_pick : FD P w K mg base 1 "_law_pick" 2 TPick) (Fn : L2.Fun K "_law_modest" "_law_modest" st_l_modest f fd) :
    FnOk P w K mg base (L2.CX P w) 2 f fd ["_law_store_here", "_law_most"] (spG K TModest) := by
  refine fn_ok Fn sc_l_modest rfl TModest_len ?_
  intro cdv A outer s H E N hr ds M Q X' h
  obtain ⟨b, m, rfl, hm1, hm2, k, L, hM, n, hL, hn, q⟩ := h
  show WB _ _ _ [some _, some _, none, none, none] _ _
  refine wb_cons ?_
  walk_at "t"
  refine we_ix ?_ (fun _ _ => rfl)
  refine we_lst ?_
  walk_at "g"
  refine tpick (by decide) (by decide) (cl_k hM ⟨n, hL, by omega, fun r1 L1 h10 h11 hL1 => ?_⟩)
  have e3 : r1 = 0 ∨ r1 = 1 ∨ r1 = 2 := by omega
  have pick : ∃ wd : Int, atI [D.int 2, D.int 9, D.int (10 ^ Int.toNat 6)] r1 = some (.int wd) ∧ 1 ≤ wd ∧ wd ≤ 10 ^ 6 := by
    rcases e3 with rfl | rfl | rfl
    · exact ⟨2, rfl, by decide, by decide⟩
    · exact ⟨9, rfl, by decide, by decide⟩
    · exact ⟨10 ^ Int.toNat 6, rfl, by decide, by decide⟩
  obtain ⟨wd, hwd, hw1, hw2⟩ := pick
  refine rix_l ⟨_, hwd, ?_⟩
  walk_at "g"
  refine ws_setLC (i := 3) N rfl rfl (lc_lc N (by walk_at "tg") (by walk_at "ok") (wi_range1 rfl (by assumption) ?_))
  walk_at "g"
  refine tpick (by omega) (by omega) (cl_set hM ⟨_, hL1, by omega, fun r2 L2 h20 h21 hL2 => ?_⟩)
  walk_at "g"
  refine ⟨by omega, by omega, fun i acc M' => ∃ (cs : List Int) (L' : List D), acc = cs.map D.int ∧ cs.length = i ∧ (∀ c ∈ cs, c.natAbs ≤ 10 ^ 6) ∧ M' = M.set k (b, .lst L') ∧ StoreL (n + 2 + i) L', ?_, fun _ _ _ _ _ _ => trivial, ?_, ?_⟩
  · exact ⟨[], L2, rfl, rfl, by simp, rfl, hL2⟩
  · rintro i d acc M' p' hd ⟨cs, L', rfl, rfl, hs, rfl, hL'⟩
    obtain ⟨hi, rfl⟩ := rangeD_inv hd
    refine ⟨_, rfl, fun B => ?_⟩
    walk_at "g"
    refine tpick (by omega) (by omega) (cl_skip (cl_set hM ⟨_, hL', by omega, fun r L'' hr0 hr1 hL'' => ?_⟩))
    walk_at "g"
    · refine ⟨_, _, rfl, ?_, cs ++ [r - wd], L'', by simp, by simp, ?_, rfl, hL''⟩
      · rw [List.length_map, sizeLine_eq]; omega
      · intro z hz
        rcases List.mem_append.mp hz with hz | hz
        · exact hs z hz
        · rw [List.mem_singleton.mp hz]; omega
    all_goals exact IntMulOk.of_left (by decide)
  · rintro acc M' p1 ⟨cs, L3, rfl, hcl, hcs, rfl, hL3⟩
    rw [rangeD_len] at hcl hL3
    have hpos : 0 < cs.length := by omega
    have hc0 : (cs.map D.int)[0]? = some (.int (cs.getD 0 0)) := getD_get hpos
    have hcb : ∀ k, (cs.getD k 0).natAbs ≤ 10 ^ 6 := fun k => by
      by_cases h : k < cs.length
      · rw [List.getD_eq_getElem?_getD, List.getElem?_eq_getElem h]
        exact hcs _ (List.getElem_mem _)
      · rw [getD_out (by omega)]; decide
    refine wb_cons ?_
    refine ws_asg ?_
    refine we_ix ?_ (fun _ _ => rfl)
    refine we_lst ?_
    walk_at "g"
    refine ⟨_, atI_nat (j := 0) hc0, ?_⟩
    walk_at "g"
    refine tpick (by decide) (by decide) (cl_skip (cl_set hM ⟨_, hL3, by omega, fun r3 L4 h30 h31 hL4 => ?_⟩))
    walk_at "g"
    refine tpick (by decide) (by decide) (cl_skip (cl_set hM ⟨_, hL4, by omega, fun r4 L5 h40 h41 hL5 => ?_⟩))
    have e4 : r4 = 0 ∨ r4 = 1 := by omega
    have hb3 : (r3 - 5 * 10 ^ Int.toNat 29).natAbs ≤ 5 * 10 ^ 29 := by
      have h31 : r3 < 10 ^ 30 := h31
      have : (10 : Int) ^ Int.toNat 29 = 10 ^ 29 := rfl
      rw [this]
      omega
    obtain ⟨z, hz, hzb⟩ : ∃ z : Int, atI [D.int (cs.getD 0 0), D.int (r3 - 5 * 10 ^ Int.toNat 29)] r4 = some (.int z) ∧ z.natAbs ≤ 5 * 10 ^ 29 := by
      rcases e4 with rfl | rfl
      · exact ⟨_, rfl, Nat.le_trans (hcb 0) (by decide)⟩
      · exact ⟨_, rfl, hb3⟩
    refine rix_l ⟨_, hz, ?_⟩
    walk_at "g"
    refine ⟨0, by rw [List.length_map]; exact ixN_at (j := 0) hpos, ?_⟩
    refine wb_one (ws_ret (we_froz 0 ?_))
    walk_at "g"
    refine ⟨p1, (cs.set 0 z).map D.int, rfl, by rw [List.map_set]; rfl, ?_⟩
    refine q (cs.set 0 z) L5 ⟨fun e => by have := congrArg List.length e; rw [List.length_set, List.length_nil] at this; omega, by rw [List.length_set]; omega, ?_, fun k hk => ?_⟩ (hL5.up (by omega))
    · rw [List.getD_eq_getElem?_getD, List.getElem?_set_self hpos]
      exact hzb
    · rw [List.getD_eq_getElem?_getD, List.getElem?_set_ne (by omega), ← List.getD_eq_getElem?_getD]
      exact hcb k
    all_goals first
      | exact ⟨by decide, by have := intBits_le (i := 10) (n := 4) (by decide); omega⟩
      | exact IntMulOk.of_left (by decide)
  all_goals exact ⟨by decide, by have := intBits_le (i := 10) (n := 4) (by decide); omega⟩
end
/-! FfD -/
set_option exponentiation.threshold 100000
theorem inV_ints (x : Int) : ∀ ns : List Int, inV (.int x) (ns.map V.int) = decide (x ∈ ns) := fun ns => by
  rw [Bool.eq_iff_iff, decide_eq_true_iff]
  simp [inV, eqV]
theorem rin_ints {M : Cells} {e : D} {x : Int} {ns : List Int} {neg : Bool} {Q : D → Cells → Prop} (h : LV M e (ns.map D.int)) (q : Q (.bl (if neg then !decide (x ∈ ns) else decide (x ∈ ns))) M) : RIn neg (.int x) e M Q := by
  refine .inl ⟨.int x, ns.map V.int, rfl, .inl (by rw [List.map_map]; exact h), rfl, by simp [flatV], ?_⟩
  rw [inV_ints]
  exact q
theorem book_app2 (xs : List (Int × Int)) (x : Int × Int) : bookD xs ++ [itemD x] = bookD (xs ++ [x]) := by unfold bookD; rw [List.map_append]; rfl
theorem asc_of_lex {xs ys : List (Int × Int)} (h : ys.Perm xs) (nd : (xs.map Prod.fst).Nodup) (hl : ys.Pairwise LexLe) : (ys.map Prod.fst).Pairwise (· < ·) := by
  have nd2 : (ys.map Prod.fst).Nodup := (h.map Prod.fst).nodup_iff.mpr nd
  rw [List.pairwise_map]
  have nd3 : ys.Pairwise fun a b => a.1 ≠ b.1 := List.pairwise_map.mp nd2
  exact (hl.and nd3).imp fun {a b} ⟨u, v⟩ => by
    rcases u with u | ⟨u, _⟩
    · exact u
    · exact absurd u v
/-- a drawn book: values of a small row from bg on -/
structure Drawn (bg : Int) (r : List Int) (xs : List (Int × Int)) : Prop where
  md : Modest 8 r
  bgb : bg.natAbs ≤ 5 * 10 ^ 29 + 1
  ln : xs.length ≤ 9
  nd : (xs.map Prod.fst).Nodup
  at_ : ∀ x ∈ xs, ∃ s : Int, 0 ≤ s ∧ s ≤ 40 ∧ x = (bg + s, valF r s)
theorem modest_bd {r : List Int} {s : Int} (h : Modest 8 r) (h0 : 0 ≤ s) (h1 : s ≤ 40) : (valF r s).natAbs ≤ 6 * 10 ^ 29 :=
  Nat.le_trans (valF_small (B := 47) (n := 7) (c0 := 5 * 10 ^ 29) (t := 10 ^ 6) (List.length_pos_iff.mpr h.ne) h.len (by omega) (by decide) h.fst h.oth) (by decide)
theorem Modest.fm {m : Nat} {r : List Int} (h : Modest m r) : Fm m 100 r := ⟨h.ne, h.len, fun c hc => by
  obtain ⟨i, hi, rfl⟩ := List.getElem_of_mem hc
  have e : r.getD i 0 = r[i] := by rw [List.getD_eq_getElem?_getD, List.getElem?_eq_getElem hi]; rfl
  rw [← e]
  by_cases h0 : i = 0
  · rw [h0]; exact Nat.le_trans h.fst (by decide)
  · exact Nat.le_trans (h.oth i (by omega)) (by decide)⟩
theorem Drawn.bd {bg : Int} {r : List Int} {xs : List (Int × Int)} (h : Drawn bg r xs) : ∀ x ∈ xs, x.1.natAbs ≤ 6 * 10 ^ 29 ∧ x.2.natAbs ≤ 6 * 10 ^ 29 := fun x hx => by
  obtain ⟨s, h0, h1, rfl⟩ := h.at_ x hx
  have := h.bgb
  exact ⟨by show (bg + s).natAbs ≤ _; omega, modest_bd h.md h0 h1⟩
theorem Drawn.fit {bg : Int} {r : List Int} {xs : List (Int × Int)} (h : Drawn bg r xs) : ∀ x ∈ xs, ∀ y ∈ xs, Fit x y := fun x hx y hy => by
  obtain ⟨s, _, _, rfl⟩ := h.at_ x hx
  obtain ⟨t, _, _, rfl⟩ := h.at_ y hy
  show (bg + s - (bg + t)) ∣ (valF r s - valF r t)
  rw [show bg + s - (bg + t) = s - t by omega]
  exact keeps_valF r s t
theorem Drawn.perm {bg : Int} {r : List Int} {xs ys : List (Int × Int)} (h : Drawn bg r xs) (p : ys.Perm xs) : Drawn bg r ys :=
  ⟨h.md, h.bgb, by rw [p.length_eq]; exact h.ln, (p.map Prod.fst).nodup_iff.mpr h.nd, fun x hx => h.at_ x (p.mem_iff.mp hx)⟩
def TBook : TSp := fun ds M Q _ => ∃ (b : Addr), ds = [.cel b, .int 9] ∧ CL M b fun L f => ∃ n, StoreL n L ∧ n ≤ 800000 ∧ ∀ xs bg r L', Drawn bg r xs → xs ≠ [] → (xs.map Prod.fst).Pairwise (· < ·) → StoreL (n + 100) L' → Q (.lst (bookD xs)) (f L')
theorem TBook_mono : Mono TBook := fun ds M Q Q' E E' h _ ⟨b, h1, h4⟩ => ⟨b, h1, h4.imp fun L f ⟨n, g1, g2, g3⟩ => ⟨n, g1, g2, fun xs bg r L' a b c d => h _ _ (g3 xs bg r L' a b c d)⟩⟩
theorem TBook_len : ∀ ds M Q E, TBook ds M Q E → ds.length = 2 := fun ds M Q E h => by obtain ⟨_, rfl, _⟩ := h; rfl
def fBeg (bg : Int) : D → D
  | .tup [.int p, .int _] => .int (p - bg)
  | _ => .non
theorem beg_D (bg : Int) (xs : List (Int × Int)) : (bookD xs).map (fBeg bg) = (xs.map fun x => x.1 - bg).map D.int := by
  unfold bookD
  rw [List.map_map, List.map_map]
  rfl
section
variable {P : Program} {w : World} {K : PySem.W.Frag} {mg : Str → Option Value} {base : Heap}
local macro_rules
  | `(tactic| walk_at "ok") => `(tactic| first
  | ((show BlkOk N_l_book (defScope st_l_book) _ _); exact blkOk_by (by decide +kernel)))
  | `(tactic| walk_at "tS") => `(tactic| first
  | ((with_reducible refine gS "_law_spot_here" ?_); refine ws_st 7 ?_))
  | `(tactic| walk_at "tG") => `(tactic| first
  | ((with_reducible refine gG "_law_begin" ?_); refine wg_nm 2 ?_)
  | ((with_reducible refine gG "_law_many" ?_); refine wg_nm 3 ?_)
  | ((with_reducible refine gG "_law_row_here" ?_); refine wg_nm 4 ?_)
  | ((with_reducible refine gG "_law_found" ?_); refine wg_nm 5 ?_)
  | ((with_reducible refine gG "_law_turn" ?_); refine wg_nm 6 ?_)
  | ((with_reducible refine gG "_law_place_here" ?_); refine wg_nm 8 ?_)
  | ((with_reducible refine gG "_law_value_here" ?_); refine wg_nm 9 ?_))
  | `(tactic| walk_at "eWECall") => `(tactic| first
  | ((with_reducible show WE _ _ (Expr.Call (Expr.Name _ _) _ _ _) _ _ _); walk_at "c")
  | ((with_reducible show WE _ _ (Expr.Call (Expr.Attribute _ "append" _) _ _ _) _ _ _); refine we_append ?_))
  | `(tactic| walk_at "n") => `(tactic| first
  | ((with_reducible refine gN "_law_store_here" ?_); refine we_nm 0 rfl rfl ?_)
  | ((with_reducible refine gN "_law_found" ?_); refine we_nm 5 rfl rfl ?_)
  | ((with_reducible refine gN "_law_spot_here" ?_); refine we_nm 7 rfl rfl ?_)
  | ((with_reducible refine gN "_law_begin" ?_); refine we_nm 2 rfl rfl ?_)
  | ((with_reducible refine gN "_law_most" ?_); refine we_nm 1 rfl rfl ?_)
  | ((with_reducible refine gN "_law_many" ?_); refine we_nm 3 rfl rfl ?_)
  | ((with_reducible refine gN "_law_row_here" ?_); refine we_nm 4 rfl rfl ?_)
  | ((with_reducible refine gN "_law_place_here" ?_); refine we_nm 8 rfl rfl ?_))
  | `(tactic| walk_at "t") => `(tactic| first
  | ((with_reducible show WS _ _ (Stmt.Assign [Expr.Name _ _] _ _) _ _ _); walk_at "tS")
  | ((with_reducible show WG _ _ (Expr.Name _ _) _ _ _ _); walk_at "tG")
  | ((with_reducible show WS _ _ (Stmt.Assign [Expr.Tuple [Expr.Name "_law_begin" _, Expr.Name "_law_many" _] _ _] (Expr.Tuple _ _ _) _) _ _ _); first | refine ws_par (i := 2) (j := 3) (by assumption) rfl rfl (by decide) rfl rfl rfl ?_ | refine ws_asg ?_)
  | ((with_reducible show WS _ _ (Stmt.Assign [Expr.Tuple [Expr.Name "_law_row_here" _, Expr.Name "_law_found" _] _ _] (Expr.Tuple _ _ _) _) _ _ _); first | refine ws_par (i := 4) (j := 5) (by assumption) rfl rfl (by decide) rfl rfl rfl ?_ | refine ws_asg ?_)
  | ((with_reducible show WS _ _ (Stmt.Assign [Expr.Tuple _ _ _] _ _) _ _ _); refine ws_asg ?_))
  | `(tactic| walk_at "c") => `(tactic| first
  | ((with_reducible refine gCK "_law_pick" ?_); refine we_cl "_law_pick" ?_)
  | ((with_reducible refine gCK "_law_modest" ?_); refine we_cl "_law_modest" ?_)
  | ((with_reducible refine gCK "_law_spot" ?_); refine we_cl "_law_spot" ?_)
  | ((with_reducible refine gCK "_law_value" ?_); refine we_cl "_law_value" ?_))
  | `(tactic| walk_at "tg") => `(tactic| first
  | exact Tg.two (i := 8) (j := 9) rfl rfl (by decide) rfl rfl)
theorem fn_lbook {f : Addr} {fd : FuncData} (b_range : mg "range" = none) (b_sorted : mg "sorted" = none) (d_modest : FD P w K mg base 2 "_law_modest" 2 TModest) (d_pick : FD P w K mg base 1 "_law_pick" 2 TPick) (d_spot : FD P w K mg base 2 "_law_spot" 1 TSpot) (d_value : FD P w K mg base 2 "_law_value" 2 TValL) (Fn : L2.Fun K "_law_book" "_law_book" st_l_book f fd) :
    FnOk P w K mg base (L2.CX P w) 3 f fd ["_law_store_here", "_law_most"] (spG K TBook) := by
  refine fn_ok Fn sc_l_book rfl TBook_len ?_
  intro cdv A outer s H E N hr ds M Q X' h
  obtain ⟨b, rfl, k, L, hM, n, hL, hn, q⟩ := h
  show WB _ _ _ [some _, some _, none, none, none, none, none, none, none, none] _ _
  refine wb_cons ?_
  walk_at "g"
  refine ⟨b, rfl, cl_k hM ⟨n, hL, by omega, fun i0 L1 h10 h11 hL1 => ?_⟩⟩
  walk_at "g"
  refine tpick (by decide) (by decide) (cl_set hM ⟨_, hL1, by omega, fun r2 L2 h20 h21 hL2 => ?_⟩)
  walk_at "g"
  refine ⟨_, _, rfl, ?_⟩
  walk_at "g"
  refine ⟨by decide, by decide, cl_set hM ⟨_, hL2, by omega, fun r L3 hmd hL3 => ?_⟩⟩
  walk_at "g"
  refine we_lstC ?_
  walk_at "g"
  intro p
  walk_at "g"
  refine ⟨_, _, rfl, ?_⟩
  have hbg : (i0 / 2).natAbs ≤ 5 * 10 ^ 29 + 1 := by omega
  generalize i0 / 2 = bg at *
  refine wb_cons ?_
  refine ws_for N (wi_range1 rfl (by assumption) ?_)
  walk_at "g"
  refine tpick (by decide) (by decide) (cl_skip (cl_set hM ⟨_, hL3, by omega, fun r4 L4 h40 h41 hL4 => ?_⟩))
  walk_at "g"
  refine ⟨by omega, by omega, fun j δ' M' => ∃ (x6 x7 x8 x9 : Option D) (ys : List (Int × Int)) (L' : List D), δ' = [some (.cel b), some (.int 9), some (.int bg), some (.int (1 + r2)), some (.lst (r.map D.int)), some (.cel p), x6, x7, x8, x9] ∧
    M' = (p, .lst (bookD ys)) :: M.set k (b, .lst L') ∧ ys.length ≤ j ∧ (0 < j → ys ≠ []) ∧ (ys.map Prod.fst).Nodup ∧ (∀ x ∈ ys, ∃ s : Int, 0 ≤ s ∧ s ≤ 40 ∧ x = (bg + s, valF r s)) ∧ StoreL (n + 54 + j) L', ?_, fun _ _ _ _ _ => trivial, ?_, ?_⟩
  · exact ⟨none, none, none, none, [], L4, rfl, rfl, Nat.le_refl _, fun h => absurd h (by omega), by simp, by simp, hL4⟩
  · rintro j d1 δ' M' hd ⟨x6, x7, x8, x9, ys, L', rfl, rfl, hyl, hy0, hnd, hat, hL'⟩
    obtain ⟨hj, rfl⟩ := rangeD_inv hd
    have hybl := bookD_len ys
    walk_at "g"
    refine tpick (by omega) (by omega) (cl_skip (cl_set hM ⟨_, hL', by omega, fun sp L5 h50 h51 hL5 => ?_⟩))
    walk_at "g"
    refine we_froz 0 (we_lcM (fBeg bg) N (by walk_at "tg") (by walk_at "ok") (wi_list ?_))
    walk_at "g"
    refine ⟨_, .c 0 rfl, by rw [hybl, sizeLine_eq]; omega, fun _ _ => .c 1 rfl, ?_, ?_⟩
    · intro i2 d' acc p2 hd2
      obtain ⟨y, hy, rfl⟩ := List.mem_map.mp (List.mem_of_getElem? hd2)
      refine ⟨_, ⟨_, _, rfl, rfl⟩, fun B => ?_⟩
      walk_at "g"
      all_goals rfl
    intro p3
    refine ⟨p3, _, rfl, rfl, ?_⟩
    rw [beg_D]
    refine rin_ints .l ?_
    refine ⟨_, rfl, ?_⟩
    by_cases hc : sp ∈ ys.map fun x => x.1 - bg
    · refine iteQ (by rw [if_pos rfl, decide_eq_true hc]; rfl) ?_
      walk_at "g"
      exact ⟨_, _, _, _, ys, L5, rfl, rfl, by omega, fun _ e => (by rw [e] at hc; cases hc), hnd, hat, hL5⟩
    · refine iteP (by rw [if_pos rfl, decide_eq_false hc]; rfl) ?_
      walk_at "g"
      refine ⟨_, r, sp, 8, 100, 7, rfl, .l, hmd.fm, by decide, by omega, by decide, ?_⟩
      walk_at "g"
      refine ⟨by rw [hybl, sizeLine_eq]; omega, ?_⟩
      refine ⟨_, _, _, _, ys ++ [(bg + sp, valF r sp)], L5, rfl, ?_, by rw [List.length_append]; show ys.length + 1 ≤ _; omega, fun _ => by simp, ?_, ?_, hL5⟩
      · rw [← book_app2]; rfl
      · rw [List.map_append, List.nodup_append]
        refine ⟨hnd, by simp, fun a ha b hb => ?_⟩
        obtain ⟨x, hx, rfl⟩ := List.mem_map.mp ha
        simp only [List.map_cons, List.map_nil, List.mem_singleton] at hb
        subst hb
        intro e
        exact hc (List.mem_map.mpr ⟨x, hx, by omega⟩)
      · intro x hx
        rcases List.mem_append.mp hx with hx | hx
        · exact hat x hx
        · exact ⟨sp, by omega, by omega, List.mem_singleton.mp hx⟩
  · rintro δ' M' ⟨x6, x7, x8, x9, ys, L', rfl, rfl, hyl, hy0, hnd, hat, hL'⟩
    rw [rangeD_len] at hyl hy0 hL'
    refine wb_one (ws_ret (WE.few ?_))
    walk_at "g"
    refine we_sortedP rfl (by assumption) ?_
    walk_at "g"
    refine ⟨ys, .c 0 rfl, fun qs hperm hlex => ?_⟩
    refine ⟨_, List.sublist_cons_self _ _, ?_⟩
    have hD : Drawn bg r ys := ⟨hmd, hbg, by omega, hnd, hat⟩
    exact q qs bg r L' (hD.perm hperm) (fun e => by rw [e] at hperm; exact hy0 (by omega) hperm.nil_eq.symm) (asc_of_lex hperm hnd hlex) (hL'.up (by omega))
  all_goals exact ⟨by decide, by decide⟩
end
/-! FfE -/
set_option exponentiation.threshold 100000
/-- the row that formula_for finds -/
noncomputable def forG (xs : List (Int × Int)) (a : Int) (w : Nat) : Int → Int := fun x => forF (fillTo xs a (w + 1)) a w (x - a)
theorem Drawn.book {bg : Int} {r : List Int} {xs : List (Int × Int)} (h : Drawn bg r xs) (asc : (xs.map Prod.fst).Pairwise (· < ·)) : BookOk xs :=
  ⟨by have := h.ln; omega, fun x hx => by
    have := h.bd x hx
    exact ⟨by show x.1.natAbs ≤ 10 ^ 30; omega, by show x.2.natAbs ≤ 10 ^ 30; omega⟩, asc⟩
theorem Drawn.poss {bg : Int} {r : List Int} {xs : List (Int × Int)} (h : Drawn bg r xs) (asc : (xs.map Prod.fst).Pairwise (· < ·)) : PossOk xs := ⟨h.book asc, h.fit⟩
theorem Drawn.ends {bg : Int} {r : List Int} {xs : List (Int × Int)} (h : Drawn bg r xs) (asc : (xs.map Prod.fst).Pairwise (· < ·)) (ne : xs ≠ []) : ∃ (a : Int) (w : Nat), Ends xs a w ∧ w ≤ 40 := by
  have hp : 0 < xs.length := List.length_pos_iff.mpr ne
  have e0 : xs[0]? = some xs[0] := List.getElem?_eq_getElem hp
  have e1 : xs[xs.length - 1]? = some (xs[xs.length - 1]'(by omega)) := List.getElem?_eq_getElem (by omega)
  obtain ⟨s, s0, s1, h1⟩ := h.at_ _ (List.mem_of_getElem? e0)
  obtain ⟨t, t0, t1, h2⟩ := h.at_ _ (List.mem_of_getElem? e1)
  have hle : s ≤ t := by
    by_cases hz : xs.length - 1 = 0
    · have : xs[xs.length - 1]'(by omega) = xs[0] := by simp only [hz]
      rw [this, h1] at h2
      have := congrArg Prod.fst h2
      have : bg + s = bg + t := this
      omega
    · have := List.pairwise_iff_getElem.mp asc 0 (xs.length - 1) (by rw [List.length_map]; omega) (by rw [List.length_map]; omega) (by omega)
      rw [List.getElem_map, List.getElem_map, h1, h2] at this
      have : bg + s < bg + t := this
      omega
  refine ⟨bg + s, (t - s).toNat, ⟨⟨_, by rw [e0, h1]⟩, ⟨valF r t, ?_⟩⟩, by omega⟩
  rw [e1, h2, show bg + s + ((t - s).toNat : Int) = bg + t by omega]
theorem Drawn.fill {bg : Int} {r : List Int} {xs : List (Int × Int)} {a : Int} {w : Nat} (h : Drawn bg r xs) (asc : (xs.map Prod.fst).Pairwise (· < ·)) (he : Ends xs a w) (hw : w ≤ 40) : ∀ x ∈ xs, forG xs a w x.1 = x.2 := fun x hx => by
  have rg := he.rg asc
  have f0 : FilOk xs a w 0 xs := FilOk.start h.fit rg fun x hx => Nat.le_trans (h.bd x hx).2 (by decide)
  exact forF_book (fillTo_ok hw f0 (w + 1) (Nat.le_refl _)) h.nd hx (rg x hx).1 (rg x hx).2
theorem liesB_true {xs : List (Int × Int)} {r : List Int} (h : ∀ x ∈ xs, valF r x.1 = x.2) : liesB xs r = true := by
  unfold liesB
  rw [List.all_eq_true]
  intro b hb
  obtain ⟨x, hx, rfl⟩ := List.mem_map.mp hb
  exact decide_eq_true (h x hx)
theorem liesB_false {xs : List (Int × Int)} {r : List Int} {x : Int × Int} (hx : x ∈ xs) (h : valF r x.1 ≠ x.2) : liesB xs r = false := by
  cases e : liesB xs r with
  | false => rfl
  | true =>
    unfold liesB at e
    rw [List.all_eq_true] at e
    have := e _ (List.mem_map.mpr ⟨x, hx, rfl⟩)
    exact absurd (of_decide_eq_true this) h
def pad (r : List Int) (n : Nat) : List Int := r ++ List.replicate n 0
theorem pad_D (r : List Int) (n : Nat) : r.map D.int ++ (List.replicate n [D.int 0]).flatten = (pad r n).map D.int := by
  unfold pad
  rw [List.map_append]
  congr 1
  induction n with
  | zero => rfl
  | succ n ih => rw [List.replicate_succ, List.flatten_cons, ih]; rfl
theorem pad_len (r : List Int) (n : Nat) : (pad r n).length = r.length + n := by simp [pad]
theorem pad_get (r : List Int) (n k : Nat) : (pad r n).getD k 0 = r.getD k 0 := by
  unfold pad
  rw [List.getD_eq_getElem?_getD, List.getD_eq_getElem?_getD]
  by_cases h : k < r.length
  · rw [List.getElem?_append_left h]
  · rw [List.getElem?_append_right (by omega), List.getElem?_eq_none (by omega : r.length ≤ k), List.getElem?_replicate]
    split <;> rfl
theorem bookOk_set {xs : List (Int × Int)} (h : BookOk xs) {k : Nat} (hk : k < xs.length) {v : Int} (hv : Small v) : BookOk (xs.set k ((itAt xs k).1, v)) := by
  refine ⟨by rw [List.length_set]; exact h.1, fun x hx => ?_, ?_⟩
  · rcases List.mem_or_eq_of_mem_set hx with hx | rfl
    · exact h.2.1 x hx
    · exact ⟨(h.2.1 _ (List.mem_of_getElem? (itAt_get hk))).1, hv⟩
  · rw [List.map_set]
    have e : (xs.map Prod.fst).set k ((itAt xs k).1, v).1 = xs.map Prod.fst := by
      refine List.ext_getElem? fun i => ?_
      by_cases hi : k = i
      · subst hi
        rw [List.getElem?_set_self (by rw [List.length_map]; exact hk), List.getElem?_map, itAt_get hk]
        rfl
      · rw [List.getElem?_set_ne hi]
    rw [e]
    exact h.2.2
theorem cutD_k (ds : List D) (n : Nat) : cutD ds (some (n : Int)) none = ds.drop n := by
  unfold cutD
  have e : HT.sIx ds.length 0 (some (n : Int)) = min n ds.length := by
    show (if (n : Int) < 0 then ((n : Int) + (ds.length : Int)).toNat else min (n : Int).toNat ds.length) = _
    rw [if_neg (by omega)]; rfl
  have e0 : HT.sIx ds.length ds.length none = ds.length := rfl
  rw [e, e0]
  rcases Nat.le_total n ds.length with h | h
  · rw [Nat.min_eq_left h, List.take_of_length_le (by rw [List.length_drop]; exact Nat.le_refl _)]
  · rw [Nat.min_eq_right h, Nat.sub_self, List.take_zero, List.drop_of_length_le h]
theorem bookOk_take {xs : List (Int × Int)} (h : BookOk xs) (i : Nat) : BookOk (xs.take i) :=
  ⟨by rw [List.length_take]; have := h.1; omega, fun x hx => h.2.1 x (List.mem_of_mem_take hx), by rw [List.map_take]; exact h.2.2.take⟩
theorem other_D {xs : List (Int × Int)} {i : Nat} (hi : i < xs.length) (y : Int × Int) : cutD (bookD xs) none (some (i : Int)) ++ [itemD y] ++ cutD (bookD xs) (some ((i : Int) + 1)) none = bookD (xs.set i y) := by
  rw [cutD_0, show (i : Int) + 1 = ((i + 1 : Nat) : Int) by omega, cutD_k, List.append_assoc, List.set_eq_take_append_cons_drop, if_pos hi]
  unfold bookD
  rw [List.map_append, List.map_cons, List.map_take, List.map_drop]
  rfl
def fVl (r : List Int) : D → D
  | .tup [.int p, .int _] => .int (valF r p)
  | _ => .non
def fSd : D → D
  | .tup [.int _, .int v] => .int v
  | _ => .non
theorem vl_D (r : List Int) (xs : List (Int × Int)) : (bookD xs).map (fVl r) = (xs.map fun x => valF r x.1).map D.int := by
  unfold bookD
  rw [List.map_map, List.map_map]
  rfl
theorem sd_D (xs : List (Int × Int)) : (bookD xs).map fSd = (xs.map fun x => x.2).map D.int := by
  unfold bookD
  rw [List.map_map, List.map_map]
  rfl
def TForR : TSp := fun ds M Q _ => ∃ (b : Addr), ds = [.cel b] ∧ CL M b fun L f => ∃ n, StoreL n L ∧ n ≤ 700000 ∧ ∀ L' rest, StoreL (n + 200) L' → Q (.bl true) (rest ++ f L')
theorem TForR_mono : Mono TForR := fun ds M Q Q' E E' h _ ⟨b, h1, h4⟩ => ⟨b, h1, h4.imp fun L f ⟨n, g1, g2, g3⟩ => ⟨n, g1, g2, fun L' rest a => h _ _ (g3 L' rest a)⟩⟩
theorem TForR_len : ∀ ds M Q E, TForR ds M Q E → ds.length = 1 := fun ds M Q E h => by obtain ⟨_, rfl, _⟩ := h; rfl
section
variable {P : Program} {w : World} {K : PySem.W.Frag} {mg : Str → Option Value} {base : Heap}
local macro_rules
  | `(tactic| walk_at "ok") => `(tactic| first
  | ((show BlkOk N_l_for_right (defScope st_l_for_right) _ _); exact blkOk_by (by decide +kernel)))
  | `(tactic| walk_at "tS") => `(tactic| first
  | ((with_reducible refine gS "_law_deal" ?_); refine ws_st 1 ?_)
  | ((with_reducible refine gS "_law_again" ?_); refine ws_st 4 ?_)
  | ((with_reducible refine gS "_law_spot_here" ?_); refine ws_st 5 ?_)
  | ((with_reducible refine gS "_law_other" ?_); refine ws_st 6 ?_))
  | `(tactic| walk_at "tG") => `(tactic| first
  | ((with_reducible refine gG "_law_kept" ?_); refine wg_nm 2 ?_)
  | ((with_reducible refine gG "_law_told" ?_); refine wg_nm 3 ?_)
  | ((with_reducible refine gG "_law_spot_here" ?_); refine wg_nm 5 ?_)
  | ((with_reducible refine gG "_law_value_here" ?_); refine wg_nm 7 ?_))
  | `(tactic| walk_at "eWECall") => `(tactic| first
  | ((with_reducible show WE _ _ (Expr.Call (Expr.Name _ _) _ _ _) _ _ _); walk_at "c")
  | ((with_reducible refine gC "list" ?_); refine we_list rfl (by assumption) ?_)
  | ((with_reducible show WE _ _ (Expr.Call (Expr.Attribute _ "append" _) _ _ _) _ _ _); refine we_append ?_)
  | ((with_reducible refine gC "len" ?_); refine we_len rfl (by assumption) ?_)
  | ((with_reducible refine gC "int" ?_); refine we_int2 rfl (by assumption) ?_))
  | `(tactic| walk_at "n") => `(tactic| first
  | ((with_reducible refine gN "_law_deal" ?_); refine we_nm 1 rfl rfl ?_)
  | ((with_reducible refine gN "_law_spot_here" ?_); refine we_nm 5 rfl rfl ?_)
  | ((with_reducible refine gN "_law_told" ?_); refine we_nm 3 rfl rfl ?_)
  | ((with_reducible refine gN "_law_again" ?_); refine we_nm 4 rfl rfl ?_)
  | ((with_reducible refine gN "_law_store_here" ?_); refine we_nm 0 rfl rfl ?_)
  | ((with_reducible show WE _ _ (Expr.Name "list" _) _ _ _); refine we_bltn (v := .ty "list") rfl (by assumption) (by decide +kernel) rfl ?_)
  | ((with_reducible refine gN "_law_kept" ?_); refine we_nm 2 rfl rfl ?_)
  | ((with_reducible refine gN "_law_other" ?_); refine we_nm 6 rfl rfl ?_)
  | ((with_reducible refine gN "_law_value_here" ?_); refine we_nm 7 rfl rfl ?_)
  | ((with_reducible show WE _ _ (Expr.Name "int" _) _ _ _); refine we_bltn (v := .ty "int") rfl (by assumption) (by decide +kernel) rfl ?_))
  | `(tactic| walk_at "t") => `(tactic| first
  | ((with_reducible show WS _ _ (Stmt.Assign [Expr.Name _ _] _ _) _ _ _); walk_at "tS")
  | ((with_reducible show WG _ _ (Expr.Name _ _) _ _ _ _); walk_at "tG")
  | ((with_reducible show WS _ _ (Stmt.Assign [Expr.Tuple [Expr.Name "_law_kept" _, Expr.Name "_law_told" _] _ _] (Expr.Tuple _ _ _) _) _ _ _); first | refine ws_par (i := 2) (j := 3) (by assumption) rfl rfl (by decide) rfl rfl rfl ?_ | refine ws_asg ?_)
  | ((with_reducible show WS _ _ (Stmt.Assign [Expr.Tuple _ _ _] _ _) _ _ _); refine ws_asg ?_))
  | `(tactic| walk_at "c") => `(tactic| first
  | ((with_reducible refine gCK "lies_on" ?_); refine we_cl "lies_on" ?_)
  | ((with_reducible refine gCK "_law_pick" ?_); refine we_cl "_law_pick" ?_)
  | ((with_reducible refine gCK "formula_for" ?_); refine we_cl "formula_for" ?_)
  | ((with_reducible refine gCK "_law_book" ?_); refine we_cl "_law_book" ?_)
  | ((with_reducible refine gCK "is_formula" ?_); refine we_cl "is_formula" ?_)
  | ((with_reducible refine gCK "_law_value" ?_); refine we_cl "_law_value" ?_))
  | `(tactic| walk_at "tg") => `(tactic| first
  | exact Tg.two (i := 5) (j := 7) rfl rfl (by decide) rfl rfl)
  | `(tactic| walk_at "eWEBinOp") => `(tactic| ((with_reducible show WE _ _ (Expr.BinOp (Expr.List _ _) Operator.Mult _ _) _ _ _); refine we_mulL (we_lstC ?_)))
theorem fn_for_right {f : Addr} {fd : FuncData} (b_int : mg "int" = none) (b_len : mg "len" = none) (b_list : mg "list" = none) (d_book : FD P w K mg base 3 "_law_book" 2 TBook) (d_pick : FD P w K mg base 1 "_law_pick" 2 TPick) (d_for : FD P w K mg base 7 "formula_for" 1 TForC) (d_is : FD P w K mg base 2 "is_formula" 1 (TForm (.bl true))) (d_lies : FD P w K mg base 6 "lies_on" 2 TLies) (d_value : FD P w K mg base 2 "_law_value" 2 TValL) (Fn : L2.Fun K "_law_for_right" "_law_for_right" st_l_for_right f fd) :
    FnOk P w K mg base (L2.CX P w) 8 f fd ["_law_store_here"] (spG K TForR) := by
  refine fn_ok Fn sc_l_for_right rfl TForR_len ?_
  intro cdv A outer s H E N hr ds M Q X' h
  obtain ⟨b, rfl, k, L, hM, n, hL, hn, q⟩ := h
  show WB _ _ _ [some _, none, none, none, none, none, none, none] _ _
  refine wb_cons ?_
  walk_at "g"
  refine ⟨b, rfl, cl_k hM ⟨n, hL, by omega, fun xs bg r L1 hD hne hasc hL1 => ?_⟩⟩
  obtain ⟨a, wd, he, hw⟩ := hD.ends hasc hne
  have hbk := hD.book hasc
  have hfl := hD.fill hasc he hw
  walk_at "g"
  refine ⟨_, bookD xs, rfl, .inl .l, ?_⟩
  walk_at "g"
  refine ⟨_, xs, rfl, .l, hD.poss hasc, .inr ⟨a, wd, he, hw, fun s hs hv hf p => ?_⟩⟩
  have hsx : ∀ x ∈ xs, valF s x.1 = x.2 := fun x hx => by rw [hv]; exact hfl x hx
  have hflen := hf.len
  walk_at "g"
  refine ⟨_, s, rfl, .c 0 rfl, hf.ne, hflen, ?_⟩
  refine ⟨_, rfl, iteQ rfl ?_⟩
  walk_at "g"
  refine wt_notBl ?_
  walk_at "g"
  refine ⟨_, _, xs, s, 41, 5000, rfl, .l, .c 0 rfl, hbk, hf, by decide, by decide, ?_⟩
  rw [liesB_true hsx]
  walk_at "g"
  refine ⟨_, _, rfl, rfl, iteQ rfl ?_⟩
  walk_at "g"
  refine req_dN (p := .list (pys (bookD xs))) (q := .list (pys (bookD xs))) (.fz (okDs_book _)) (.fz (okDs_book _)) (shaped_book _) (shaped_book _) ?_
  rw [PySem.SeqAt.eqv_refl _ (SeqAt.canLay_of_shaped (shaped_book _))]
  refine ⟨_, rfl, iteQ rfl ?_⟩
  walk_at "g"
  have hxl : (bookD xs).length ≤ sizeLine := by rw [bookD_len, sizeLine_eq]; have := hD.ln; omega
  refine we_froz 0 (we_lcM (fVl s) N (by walk_at "tg") (by walk_at "ok") (wi_list ?_))
  walk_at "g"
  refine ⟨_, .l, hxl, fun _ _ => .l, ?_, ?_⟩
  · intro i2 d' acc p2 hd2
    obtain ⟨y, hy, rfl⟩ := List.mem_map.mp (List.mem_of_getElem? hd2)
    have hyb := (hD.bd y hy).1
    have h2 : (10 : Nat) ^ 30 + 200 ≤ 2 ^ 101 := by decide
    refine ⟨_, ⟨_, _, rfl, rfl⟩, fun B => ?_⟩
    walk_at "g"
    refine ⟨_, s, y.1, 41, 5000, 101, rfl, .c 1 rfl, hf, by decide, by omega, by decide, ?_⟩
    all_goals first | exact ⟨rfl, rfl⟩ | rfl
  intro p3
  refine ⟨p3, _, rfl, rfl, ?_⟩
  rw [vl_D]
  refine we_froz 0 (we_lcM fSd N (by walk_at "tg") (by walk_at "ok") (wi_list ?_))
  walk_at "g"
  refine ⟨_, .l, hxl, fun _ _ => .l, ?_, ?_⟩
  · intro i2 d' acc p2 hd2
    obtain ⟨y, hy, rfl⟩ := List.mem_map.mp (List.mem_of_getElem? hd2)
    refine ⟨_, ⟨_, _, rfl, rfl⟩, fun B => ?_⟩
    walk_at "g"
    all_goals first | exact ⟨rfl, rfl⟩ | rfl
  intro p4
  refine ⟨p4, _, rfl, rfl, ?_⟩
  rw [sd_D]
  refine req_intsN .l .l ?_
  rw [show decide ((xs.map fun x => valF s x.1) = xs.map fun x => x.2) = true from decide_eq_true (List.map_congr_left hsx)]
  refine ⟨_, rfl, iteQ rfl ?_⟩
  walk_at "g"
  refine ⟨_, s.map D.int, rfl, .inl (.c 0 rfl), ?_⟩
  walk_at "g"
  refine ⟨by rw [List.length_map, sizeLine_eq]; omega, ?_⟩
  walk_at "g"
  refine ⟨_, xs, rfl, .l, hD.poss hasc, .inr ⟨a, wd, he, hw, fun s2 hs2 hv2 hf2 p5 => ?_⟩⟩
  have e2 : s2 = s := plain_uniq hs2 hs fun i => by rw [hv2, hv]
  subst e2
  walk_at "g"
  refine req_intsN (xs := s2) (ys := s2) (.c 0 rfl) .l ?_
  rw [decide_eq_true rfl]
  refine ⟨_, rfl, iteQ rfl ?_⟩
  walk_at "g"
  refine wt_notBl ?_
  walk_at "g"
  intro p6
  walk_at "g"
  rw [List.length_map]
  refine .inr (.inl ⟨_, rfl, ?_⟩)
  obtain ⟨t, ht, ht2⟩ : ∃ t : Nat, (if decide ((s2.length : Int) < 41) = true then (1 : Int) else 0) = t ∧ s2.length + t ≤ 41 := by
    by_cases h : (s2.length : Int) < 41
    · exact ⟨1, by rw [decide_eq_true h]; rfl, by omega⟩
    · exact ⟨0, by rw [decide_eq_false h]; rfl, by omega⟩
  rw [ht]
  refine ⟨0, p6, [.int 0], t, rfl, rfl, rfl, by omega, by omega, ?_, ?_⟩
  · show 1 * _ ≤ _
    rw [sizeLine_eq]; omega
  refine .inr (.inr ⟨s2.map D.int, (List.replicate t [D.int 0]).flatten, .l, .l, ?_, ?_⟩)
  · rw [List.length_map]
    simp
    rw [sizeLine_eq]; omega
  rw [pad_D]
  have hpv : ∀ x, valF (pad s2 t) x = valF s2 x := fun x => valF_ext (fun k => pad_get s2 t k) x
  walk_at "g"
  refine ⟨_, _, xs, pad s2 t, 41, 5000, rfl, .l, .l, hbk, ⟨fun e => ?_, by rw [pad_len]; exact ht2, fun c hc => ?_⟩, by decide, by decide, ?_⟩
  · have := congrArg List.length e
    rw [pad_len, List.length_nil] at this
    exact hf.ne (List.eq_nil_of_length_eq_zero (by omega))
  · rcases List.mem_append.mp hc with hc | hc
    · exact hf.bd c hc
    · rw [(List.mem_replicate.mp hc).2]; exact Nat.zero_le _
  rw [liesB_true fun x hx => by rw [hpv]; exact hsx x hx]
  walk_at "g"
  refine ⟨_, _, rfl, rfl, iteQ rfl ?_⟩
  walk_at "g"
  rw [bookD_len]
  have hpos : 0 < xs.length := List.length_pos_iff.mpr hne
  have hlen9 := hD.ln
  refine tpick (by omega) (by omega) (cl_skip (cl_skip (cl_set hM ⟨_, hL1, by omega, fun sp L2 h20 h21 hL2 => ?_⟩)))
  obtain ⟨i, rfl⟩ : ∃ i : Nat, sp = i := ⟨sp.toNat, by omega⟩
  have hi : i < xs.length := by omega
  have gi : (bookD xs)[i]? = some (.tup [.int (itAt xs i).1, .int (itAt xs i).2]) := bookD_get (itAt_get hi)
  walk_at "g"
  show WE _ _ (Expr.List _ _) _ _ _
  refine we_lst ?_
  walk_at "g"
  refine ⟨_, atI_nat gi, ?_⟩
  walk_at "g"
  refine ⟨_, atI_nat gi, ?_⟩
  walk_at "g"
  refine tpick (by decide) (by decide) (cl_skip (cl_skip (cl_set hM ⟨_, hL2, by omega, fun r5 L3 h30 h31 hL3 => ?_⟩)))
  walk_at "g"
  have hcut : ∀ (A B : Option Int), (cutD (bookD xs) A B).length ≤ 9 := fun A B => by
    unfold cutD
    rw [List.length_take, List.length_drop, bookD_len]
    omega
  refine .inr (.inr ⟨_, _, .l, .l, by have := hcut none (some (i : Int)); rw [sizeLine_eq]; simp only [List.length_cons, List.length_nil]; omega, ?_⟩)
  walk_at "g"
  refine .inr (.inr ⟨_, _, .l, .l, by have := hcut none (some (i : Int)); have := hcut (some ((i : Int) + 1)) none; rw [sizeLine_eq, List.length_append]; simp only [List.length_cons, List.length_nil]; omega, ?_⟩)
  walk_at "g"
  have eo := other_D hi ((itAt xs i).1, (itAt xs i).2 + 1 - 2 * r5)
  have him : itAt xs i ∈ xs := List.mem_of_getElem? (itAt_get hi)
  have hib := hD.bd _ him
  refine we_isBl ?_
  walk_at "g"
  refine ⟨_, _, xs.set i ((itAt xs i).1, (itAt xs i).2 + 1 - 2 * r5), s2, 41, 5000, rfl, .inl (congrArg D.lst eo), .l, bookOk_set hbk hi (by show Int.natAbs _ ≤ 10 ^ 30; omega), hf, by decide, by decide, ?_⟩
  rw [liesB_false (x := ((itAt xs i).1, (itAt xs i).2 + 1 - 2 * r5)) (List.mem_set hi _) (by show valF s2 (itAt xs i).1 ≠ _; rw [hsx _ him]; omega)]
  walk_at "g"
  refine ⟨_, _, rfl, rfl, ⟨_, rfl, iteP rfl ?_⟩⟩
  have et : cutD (bookD xs) none (some (i : Int)) = bookD (xs.take i) := by
    rw [cutD_0]; unfold bookD; rw [List.map_take]
  refine we_one ?_
  refine we_isBl ?_
  walk_at "g"
  refine ⟨_, _, xs.take i, s2, 41, 5000, rfl, .inl (congrArg D.lst et), .l, bookOk_take hbk i, hf, by decide, by decide, ?_⟩
  rw [liesB_true fun x hx => hsx x (List.mem_of_mem_take hx)]
  walk_at "g"
  refine ⟨_, _, rfl, rfl, ?_⟩
  exact q L3 [(p5, .lst (s2.map D.int)), (p, .lst (s2.map D.int ++ [D.int 0]))] (hL3.up (by omega))
  all_goals exact IntMulOk.of_left (by decide)
end
/-! FfF -/
set_option exponentiation.threshold 100000
theorem set_id {M : Cells} {k : Nat} {x : Addr × Cell} (h : M[k]? = some x) : M.set k x = M := by
  refine List.ext_getElem? fun i => ?_
  rw [List.getElem?_set]
  by_cases e : k = i
  · subst e
    rw [if_pos rfl, if_pos (List.getElem?_eq_some_iff.mp h).1, h]
  · rw [if_neg e]
theorem log_fm {L B : Nat} {s : List Int} (h : Fm L B s) (hB : B ≤ 1900) : ∀ n ∈ s, n.natAbs.log2 < 1920 := fun n hn => log_lt (Nat.lt_of_le_of_lt (h.bd n hn) (Nat.pow_lt_pow_right (by decide) (by omega)))
/-- a formula of lesser degree has not the same values -/
theorem cut_ne {s t : List Int} {m : Nat} (hs : IsPlain s) (h2 : 2 ≤ s.length) (hm : s.length ≤ m) (ht : t.length < s.length) : ¬ ∀ i : Nat, i < m → valF t i = valF s i := fun h => by
  have d : Deg m fun x => valF t x + -1 * valF s x := Deg.add ((valF_deg t).le (by omega)) (Deg.smul (-1) ((valF_deg s).le hm))
  have z := Deg.null d fun i hi => by
    show valF t i + -1 * valF s i = 0
    rw [h i hi]; omega
  have dd : Deg t.length (valF s) := Deg.congr (fun x => by have := z x; show valF t x = valF s x; have : valF t x + -1 * valF s x = 0 := this; omega) (valF_deg t)
  have := plain_deg hs dd
  omega
theorem cutD_m1 (ds : List D) : cutD ds none (some (-1)) = ds.take (ds.length - 1) := by
  unfold cutD
  have e : HT.sIx ds.length ds.length (some (-1)) = ds.length - 1 := by
    show (if (-1 : Int) < 0 then ((-1 : Int) + (ds.length : Int)).toNat else min (-1 : Int).toNat ds.length) = _
    rw [if_pos (by decide)]; omega
  have e0 : HT.sIx ds.length 0 none = 0 := rfl
  rw [e, e0]
  simp
abbrev TValsOf : TSp := fun ds M Q E => TVals ds M Q E ∧ ∃ (d : D) (r : List Int) (x : Int) (n : Nat), ds = [d, .int x, .int n] ∧ LV M d (r.map D.int) ∧ r ≠ [] ∧ r.length ≤ 41 ∧ 1 ≤ n ∧ n ≤ 60
theorem TValsOf_mono : Mono TValsOf := fun ds M Q Q' E E' h g ⟨a, b⟩ => ⟨TVals_mono ds M Q Q' E E' h g a, b⟩
def TFromR : TSp := fun ds M Q _ => ∃ (b : Addr) (m : Nat), ds = [.cel b, .int m] ∧ 1 ≤ m ∧ m ≤ 40 ∧ CL M b fun L f => ∃ n, StoreL n L ∧ n ≤ 700000 ∧ ∀ L' rest, StoreL (n + 5000) L' → Q (.bl true) (rest ++ f L')
theorem TFromR_mono : Mono TFromR := fun ds M Q Q' E E' h _ ⟨b, m, h1, h2, h3, h4⟩ => ⟨b, m, h1, h2, h3, h4.imp fun L f ⟨n, g1, g2, g3⟩ => ⟨n, g1, g2, fun L' rest a => h _ _ (g3 L' rest a)⟩⟩
theorem TFromR_len : ∀ ds M Q E, TFromR ds M Q E → ds.length = 2 := fun ds M Q E h => by obtain ⟨_, _, rfl, _⟩ := h; rfl
section
variable {P : Program} {w : World} {K : PySem.W.Frag} {mg : Str → Option Value} {base : Heap}
local macro_rules
  | `(tactic| walk_at "ok") => `(tactic| first
  | ((show BlkOk N_l_from_right (defScope st_l_from_right) _ _); exact blkOk_by (by decide +kernel)))
  | `(tactic| walk_at "tS") => `(tactic| first
  | ((with_reducible refine gS "_law_row_here" ?_); refine ws_st 2 ?_)
  | ((with_reducible refine gS "_law_values_here" ?_); refine ws_st 3 ?_)
  | ((with_reducible refine gS "_law_told" ?_); refine ws_st 6 ?_))
  | `(tactic| walk_at "tG") => `(tactic| first
  | ((with_reducible refine gG "_law_kept" ?_); refine wg_nm 4 ?_)
  | ((with_reducible refine gG "_law_due" ?_); refine wg_nm 5 ?_)
  | ((with_reducible refine gG "_law_turn" ?_); refine wg_nm 7 ?_)
  | ((with_reducible refine gG "_law_spot_here" ?_); refine wg_nm 8 ?_))
  | `(tactic| walk_at "eWECall") => `(tactic| first
  | ((with_reducible show WE _ _ (Expr.Call (Expr.Name _ _) _ _ _) _ _ _); walk_at "c")
  | ((with_reducible show WE _ _ (Expr.Call (Expr.Attribute _ "append" _) _ _ _) _ _ _); refine we_append ?_)
  | ((with_reducible refine gC "list" ?_); refine we_list rfl (by assumption) ?_)
  | ((with_reducible refine gC "len" ?_); refine we_len rfl (by assumption) ?_))
  | `(tactic| walk_at "n") => `(tactic| first
  | ((with_reducible refine gN "_law_values_here" ?_); refine we_nm 3 rfl rfl ?_)
  | ((with_reducible refine gN "_law_due" ?_); refine we_nm 5 rfl rfl ?_)
  | ((with_reducible refine gN "_law_many" ?_); refine we_nm 1 rfl rfl ?_)
  | ((with_reducible refine gN "_law_row_here" ?_); refine we_nm 2 rfl rfl ?_)
  | ((with_reducible refine gN "_law_told" ?_); refine we_nm 6 rfl rfl ?_)
  | ((with_reducible refine gN "_law_store_here" ?_); refine we_nm 0 rfl rfl ?_)
  | ((with_reducible refine gN "_law_kept" ?_); refine we_nm 4 rfl rfl ?_)
  | ((with_reducible refine gN "_law_spot_here" ?_); refine we_nm 8 rfl rfl ?_)
  | ((with_reducible show WE _ _ (Expr.Name "list" _) _ _ _); refine we_bltn (v := .ty "list") rfl (by assumption) (by decide +kernel) rfl ?_))
  | `(tactic| walk_at "t") => `(tactic| first
  | ((with_reducible show WS _ _ (Stmt.Assign [Expr.Name _ _] _ _) _ _ _); walk_at "tS")
  | ((with_reducible show WG _ _ (Expr.Name _ _) _ _ _ _); walk_at "tG")
  | ((with_reducible show WS _ _ (Stmt.Assign [Expr.Tuple [Expr.Name "_law_kept" _, Expr.Name "_law_due" _] _ _] (Expr.Tuple _ _ _) _) _ _ _); first | refine ws_par (i := 4) (j := 5) (by assumption) rfl rfl (by decide) rfl rfl rfl ?_ | refine ws_asg ?_)
  | ((with_reducible show WS _ _ (Stmt.Assign [Expr.Tuple _ _ _] _ _) _ _ _); refine ws_asg ?_))
  | `(tactic| walk_at "c") => `(tactic| first
  | ((with_reducible refine gCK "values_of" ?_); refine we_cl "values_of" ?_)
  | ((with_reducible refine gCK "formula_from" ?_); refine we_cl "formula_from" ?_)
  | ((with_reducible refine gCK "_law_bare" ?_); refine we_cl "_law_bare" ?_)
  | ((with_reducible refine gCK "_law_row" ?_); refine we_cl "_law_row" ?_)
  | ((with_reducible refine gCK "_law_made" ?_); refine we_cl "_law_made" ?_)
  | ((with_reducible refine gCK "_law_value" ?_); refine we_cl "_law_value" ?_))
  | `(tactic| walk_at "tg") => `(tactic| first
  | exact Tg.one (i := 7) rfl rfl
  | exact Tg.one (i := 8) rfl rfl)
theorem fn_from_right {f : Addr} {fd : FuncData} (hnd : base.NoDigits) (b_len : mg "len" = none) (b_list : mg "list" = none) (b_range : mg "range" = none) (b_repr : mg "repr" = none) (d_vals : FD P w K mg base 5 "values_of" 3 TValsOf) (d_from : FD P w K mg base 6 "formula_from" 1 TFromC) (d_bare : FD P w K mg base 1 "_law_bare" 1 TBare) (d_row : FD P w K mg base 2 "_law_row" 2 TRow) (d_made : FD P w K mg base 2 "_law_made" 1 TMade) (d_value : FD P w K mg base 2 "_law_value" 2 TValL) (Fn : L2.Fun K "_law_from_right" "_law_from_right" st_l_from_right f fd) :
    FnG P w K mg base (L2.CX P w) 7 f fd ["_law_store_here", "_law_many"] (spG K TFromR) := by
  refine fn_okG Fn sc_l_from_right rfl TFromR_len ?_
  intro cdv A outer s H E hgd N hr ds M Q X' h
  obtain ⟨b, m, rfl, hm1, hm2, k, L, hM, n, hL, hn, q⟩ := h
  show WB _ _ _ [some _, some _, none, none, none, none, none, none, none] _ _
  refine wb_cons ?_
  refine ws_st 2 (we_lc N (by walk_at "tg") (by walk_at "ok") (wi_range1 rfl (by assumption) ?_))
  walk_at "g"
  refine ⟨by omega, by omega, fun i acc M' => ∃ (cs : List Int) (L' : List D), acc = cs.map D.int ∧ cs.length = i ∧ (∀ c ∈ cs, c.natAbs ≤ 2 ^ 100) ∧ M' = M.set k (b, .lst L') ∧ StoreL (n + 100 * i) L', ?_, fun _ _ _ _ _ _ => trivial, ?_, ?_⟩
  · exact ⟨[], L, rfl, rfl, by simp, (set_id hM).symm, hL⟩
  · rintro i d acc M' p' hd ⟨cs, L', rfl, rfl, hs, rfl, hL'⟩
    obtain ⟨hi, rfl⟩ := rangeD_inv hd
    refine ⟨_, rfl, fun B => ?_⟩
    walk_at "g"
    refine ⟨b, 1, rfl, by decide, by decide, cl_skip (cl_set hM ⟨_, hL', by omega, fun r L'' hfr hL'' => ?_⟩)⟩
    have hr0 : 0 < r.length := List.length_pos_iff.mpr hfr.ne
    walk_at "g"
    refine ⟨_, atI_nat (j := 0) (getD_get hr0), ?_⟩
    refine ⟨_, _, rfl, ?_, cs ++ [r.getD 0 0], L'', by simp, by simp, ?_, rfl, hL''.up (by omega)⟩
    · rw [List.length_map, sizeLine_eq]; omega
    · intro z hz
      rcases List.mem_append.mp hz with hz | hz
      · exact hs z hz
      · rw [List.mem_singleton.mp hz]; exact fm_get hfr 0
  · rintro acc M' p1 ⟨cs, L3, rfl, hcl, hcs, rfl, hL3⟩
    rw [rangeD_len] at hcl hL3
    have hcm : cs.length = m := by omega
    have hf : Fm 40 100 cs := ⟨fun e => by rw [e, List.length_nil] at hcm; omega, by omega, hcs⟩
    have hL4 : StoreL (n + 5000) L3 := hL3.up (by omega)
    walk_at "g"
    refine ⟨⟨_, cs, 0, m, 40, 100, 7, rfl, .c 0 rfl, hf, by decide, fun i hi => by omega, by decide, by omega, ?_⟩, _, cs, 0, m, rfl, .c 0 rfl, hf.ne, by omega, hm1, by omega⟩
    walk_at "g"
    have hbig : ∀ x : Int, x.natAbs + 60 ≤ 2 ^ 7 → Big (valF cs x) := fun x hx => big_of (vb_ok (a := 7) hf (by decide) (by omega)) (by decide)
    have bg : ∀ n ∈ (List.range m).map fun i : Nat => valF cs (0 + (i : Nat)), Big n := fun n hn => by
      obtain ⟨i, hi, rfl⟩ := List.mem_map.mp hn
      have := List.mem_range.mp hi
      exact hbig _ (by omega)
    have ln : ((List.range m).map fun i : Nat => valF cs (0 + (i : Nat))).length ≤ 200 := by rw [List.length_map, List.length_range]; omega
    refine we_reprL hgd (by walk_at "u") hnd rfl (by assumption) (by decide +kernel) ?_
    walk_at "g"
    refine ⟨(List.range m).map fun i : Nat => valF cs (0 + (i : Nat)), .l, bg, ln, ?_⟩
    refine we_reprL hgd (by walk_at "u") hnd rfl (by assumption) (by decide +kernel) ?_
    refine we_froz 0 (we_lcM (fVal cs 0) N (by walk_at "tg") (by walk_at "ok") (wi_range1 rfl (by assumption) ?_))
    walk_at "g"
    refine ⟨by omega, by omega, ?_, fun _ _ => trivial, ?_, ?_⟩
    · rw [rangeD_len, sizeLine_eq]; omega
    · intro j d' acc p hd
      obtain ⟨hj, rfl⟩ := rangeD_inv hd
      refine ⟨_, rfl, fun B' => ?_⟩
      walk_at "g"
      refine ⟨_, cs, _, 40, 100, 7, rfl, .c 1 rfl, hf, by decide, by omega, by decide, ?_⟩
      refine ⟨rfl, ?_⟩
      show D.int (valF cs (0 + (j : Int))) = D.int (valF cs (0 + (0 + (j : Int))))
      rw [show (0 : Int) + (0 + (j : Int)) = 0 + j by omega]
    intro p
    refine ⟨p, _, rfl, rfl, ?_⟩
    rw [show ((m : Nat) : Int).toNat = m by omega, vals_D]
    refine ⟨(List.range m).map fun i : Nat => valF cs (0 + (i : Nat)), .l, bg, ln, ?_⟩
    walk_at "g"
    refine iteN (fun h => absurd rfl h) (fun _ => ?_)
    walk_at "g"
    refine ⟨_, _, rfl, .inl .l, ?_⟩
    walk_at "g"
    refine ⟨_, cs, rfl, .c 0 rfl, hf.ne, by have := hf.len; omega, fun s0 hs0 hv0 hle0 hm0 => ?_⟩
    have hf0 : Fm 40 100 s0 := ⟨hs0.1, by omega, fun c hc => hcs c (hm0 c hc)⟩
    have hbd : ∀ i : Nat, i < m → (valF cs (0 + (i : Nat))).natAbs ≤ 2 ^ vb 60 100 7 := fun i hi => vb_ok (a := 7) (hf.up (by decide) (Nat.le_refl _)) (by decide) (by omega)
    walk_at "g"
    refine ⟨_, _, rfl, ?_⟩
    have hk : Keeps fun x => valF cs (0 + x) := Keeps.shift' 0 (valF_keeps cs)
    have hdg : Deg m fun x => valF cs (0 + x) := Deg.shift' 0 (hcm ▸ valF_deg cs)
    have un : ∀ s : List Int, IsPlain s → (∀ x, valF s x = valF cs (0 + x)) → s = s0 := fun s a b => plain_uniq a hs0 fun i => by rw [hv0, b, Int.zero_add]
    have ok := okQ_ints (log_fm hf0 (by decide)) (by have := hf0.len; omega)
    walk_at "g"
    refine ⟨_, fun x => valF cs (0 + x), m, vb 60 100 7, rfl, .l, hm1, hm2, hk, hdg, hbd, fun s1 hs1 hv1 hf1 p2 => ?_⟩
    obtain rfl := un s1 hs1 hv1
    walk_at "g"
    refine we_repr hgd (by walk_at "u") rfl (by assumption) (by decide +kernel) ?_
    walk_at "g"
    refine ⟨_, RP.ofL (.c 0 rfl), ok, ?_⟩
    refine we_repr hgd (by walk_at "u") rfl (by assumption) (by decide +kernel) ?_
    walk_at "g"
    refine ⟨_, RP.ofL .l, ok, ?_⟩
    walk_at "g"
    refine iteN (fun h => absurd rfl h) (fun _ => ?_)
    walk_at "g"
    refine req_intsN (xs := (List.range m).map fun i : Nat => valF cs (0 + (i : Nat))) (ys := (List.range m).map fun i : Nat => valF cs (0 + (i : Nat))) .l .l ?_
    rw [decide_eq_true rfl]
    walk_at "g"
    refine ⟨_, fun x => valF cs (0 + x), m, rfl, .l, hm1, by omega, hk, hdg, fun s2 hs2 hv2 => ?_⟩
    obtain rfl := un s2 hs2 hv2
    walk_at "g"
    refine req_intsN (xs := s2) (ys := s2) .l .l ?_
    rw [decide_eq_true rfl]
    walk_at "g"
    refine ⟨by rw [List.length_map, sizeLine_eq]; omega, ?_⟩
    walk_at "g"
    refine ⟨_, fun x => valF cs (0 + x), m, vb 60 100 7, rfl, .l, hm1, hm2, hk, hdg, hbd, fun s3 hs3 hv3 hf3 p3 => ?_⟩
    obtain rfl := un s3 hs3 hv3
    walk_at "g"
    refine req_intsN (xs := s3) (ys := s3) (.c 0 rfl) .l ?_
    rw [decide_eq_true rfl]
    walk_at "g"
    refine ⟨⟨_, s3, 0, m, 40, 100, 7, rfl, .l, hf0, by decide, fun i hi => by omega, by decide, by omega, ?_⟩, _, s3, 0, m, rfl, .l, hf0.ne, by have := hf0.len; omega, hm1, by omega⟩
    walk_at "g"
    refine req_intsN (xs := (List.range m).map fun i : Nat => valF s3 (0 + (i : Nat))) (ys := (List.range m).map fun i : Nat => valF cs (0 + (i : Nat))) .l .l ?_
    rw [decide_eq_true (List.map_congr_left fun i _ => hv0 _)]
    walk_at "g"
    rw [List.length_map]
    by_cases h1 : s3.length = 1
    · refine iteP (decide_eq_true (by omega)) ?_
      exact q L3 [(p3, .lst (s3.map D.int)), (p2, .lst (s3.map D.int ++ [D.non])), (p1, .lst (cs.map D.int))] hL4
    · refine iteQ (decide_eq_false (by omega)) ?_
      have l1 := hs3.1
      have l2 : 2 ≤ s3.length := by have := List.length_pos_iff.mpr l1; omega
      walk_at "g"
      rw [cutD_m1]
      have hft : Fm 40 100 (s3.take (s3.length - 1)) := ⟨fun e => by have := congrArg List.length e; rw [List.length_take, List.length_nil] at this; omega, by rw [List.length_take]; have := hf0.len; omega, fun c hc => hf0.bd c (List.mem_of_mem_take hc)⟩
      rw [show (s3.map D.int).length = s3.length from List.length_map .., ← List.map_take]
      refine ⟨⟨_, s3.take (s3.length - 1), 0, m, 40, 100, 7, rfl, .l, hft, by decide, fun i hi => by omega, by decide, by omega, ?_⟩, _, s3.take (s3.length - 1), 0, m, rfl, .l, hft.ne, by have := hft.len; omega, hm1, by omega⟩
      walk_at "g"
      refine req_intsN (xs := (List.range m).map fun i : Nat => valF (s3.take (s3.length - 1)) (0 + (i : Nat))) (ys := (List.range m).map fun i : Nat => valF cs (0 + (i : Nat))) .l .l ?_
      rw [decide_eq_false (fun e => cut_ne (m := m) (t := s3.take (s3.length - 1)) hs0 l2 (by omega) (by rw [List.length_take]; omega) fun i hi => by
        have := congrArg (fun l => l.getD i 0) e
        simp only [List.getD_eq_getElem?_getD, List.getElem?_map, List.getElem?_range hi, Option.map_some, Option.getD_some] at this
        rw [Int.zero_add] at this
        rw [this, hv0])]
      exact q L3 [(p3, .lst (s3.map D.int)), (p2, .lst (s3.map D.int ++ [D.non])), (p1, .lst (cs.map D.int))] hL4
end
/-! FfG -/
set_option exponentiation.threshold 100000
/-- a formula with given values at few places -/
theorem known {s t : List Int} {F : Int → Int} {n : Nat} (hs : IsPlain s) (ht : IsPlain t) (hv : ∀ x, valF s x = F x) (h1 : s.length ≤ n) (h2 : t.length ≤ n) (h : ∀ i : Nat, i < n → F i = valF t i) : s = t := by
  have d : Deg n fun x => valF s x + -1 * valF t x := Deg.add ((valF_deg s).le h1) (Deg.smul (-1) ((valF_deg t).le h2))
  have z := Deg.null d fun i hi => by
    show valF s i + -1 * valF t i = 0
    rw [hv, h i hi]; omega
  exact plain_uniq hs ht fun i => by
    have := z i
    omega
def TForE : TSp := fun ds M Q _ => ∃ d : D, ds = [d] ∧ LV M d [] ∧ Q (.lst [.int 0]) M
theorem TForE_mono : Mono TForE := fun ds M Q Q' E E' h _ ⟨d, h1, h2, h3⟩ => ⟨d, h1, h2, h _ _ h3⟩
theorem for_froz : ∀ ds M Q E, Cl Q → TForE ds M Q E → TForC ds M Q E := fun ds M Q E c ⟨d, h1, h2, h3⟩ => ⟨d, [], h1, h2, ⟨⟨by decide, by simp, .nil⟩, by simp⟩, .inl ⟨rfl, fun p => c p _ _ h3⟩⟩
def wideB : List (Int × Int) := [(-20, 0), (20, 40)]
theorem wide_ok : PossOk wideB := ⟨⟨by decide, fun x hx => by
  simp only [wideB, List.mem_cons, List.not_mem_nil, or_false] at hx
  rcases hx with rfl | rfl
  · exact ⟨by show Int.natAbs (-20) ≤ 10 ^ 30; decide, by show Int.natAbs 0 ≤ 10 ^ 30; decide⟩
  · exact ⟨by show Int.natAbs 20 ≤ 10 ^ 30; decide, by show Int.natAbs 40 ≤ 10 ^ 30; decide⟩, by decide⟩, fun x hx y hy => by
  simp only [wideB, List.mem_cons, List.not_mem_nil, or_false] at hx hy
  rcases hx with rfl | rfl <;> rcases hy with rfl | rfl <;> decide⟩
theorem wide_ends : Ends wideB (-20) 40 := ⟨⟨0, rfl⟩, ⟨40, rfl⟩⟩
theorem wide_fill : ∀ x ∈ wideB, forG wideB (-20) 40 x.1 = x.2 := fun x hx => by
  have rg := wide_ends.rg wide_ok.1.2.2
  have f0 : FilOk wideB (-20) 40 0 wideB := FilOk.start wide_ok.2 rg fun x hx => by
    simp only [wideB, List.mem_cons, List.not_mem_nil, or_false] at hx
    rcases hx with rfl | rfl <;> decide
  exact forF_book (fillTo_ok (by decide) f0 41 (Nat.le_refl _)) (by decide) hx (rg x hx).1 (rg x hx).2
def told26 : D := .lst [.bl true, .lst [.int 0], .bl true, .bl true]
def TLaw : TSp := fun ds M Q _ => ∃ ns : List Int, ds = [.lst (ns.map D.int)] ∧ ns.length ≤ 63 ∧ ∀ M', Q (.bl true) M'
theorem TLaw_len : ∀ ds M Q E, TLaw ds M Q E → ds.length = 1 := fun ds M Q E h => by obtain ⟨_, rfl, _⟩ := h; rfl
section
variable {P : Program} {w : World} {K : PySem.W.Frag} {mg : Str → Option Value} {base : Heap}
local macro_rules
  | `(tactic| walk_at "ok") => `(tactic| first
  | ((show BlkOk N_law (defScope st_law) _ _); exact blkOk_by (by decide +kernel)))
  | `(tactic| walk_at "tS") => `(tactic| first
  | ((with_reducible refine gS "_law_store_here" ?_); refine ws_st 2 ?_)
  | ((with_reducible refine gS "_law_wide" ?_); refine ws_st 5 ?_)
  | ((with_reducible refine gS "_law_told" ?_); refine ws_st 6 ?_))
  | `(tactic| walk_at "tG") => `(tactic| first
  | ((with_reducible refine gG "_law_k" ?_); refine wg_nm 1 ?_)
  | ((with_reducible refine gG "_law_many" ?_); refine wg_nm 3 ?_)
  | ((with_reducible refine gG "_law_turn" ?_); refine wg_nm 4 ?_))
  | `(tactic| walk_at "eWECall") => `(tactic| first
  | ((with_reducible show WE _ _ (Expr.Call (Expr.Name _ _) _ _ _) _ _ _); walk_at "c")
  | ((with_reducible refine gC "max" ?_); refine we_max2 rfl rfl (by assumption) ?_)
  | ((with_reducible refine gC "min" ?_); refine we_min2 rfl rfl (by assumption) ?_)
  | ((with_reducible refine gC "len" ?_); refine we_len rfl (by assumption) ?_)
  | ((with_reducible refine gC "int" ?_); refine we_int2 rfl (by assumption) ?_))
  | `(tactic| walk_at "n") => `(tactic| first
  | ((with_reducible refine gN "_law_store_here" ?_); refine we_nm 2 rfl rfl ?_)
  | ((with_reducible refine gN "_law_script" ?_); refine we_nm 0 rfl rfl ?_)
  | ((with_reducible refine gN "_law_k" ?_); refine we_nm 1 rfl rfl ?_)
  | ((with_reducible refine gN "_law_wide" ?_); refine we_nm 5 rfl rfl ?_)
  | ((with_reducible refine gN "_law_many" ?_); refine we_nm 3 rfl rfl ?_)
  | ((with_reducible refine gN "_law_told" ?_); refine we_nm 6 rfl rfl ?_)
  | ((with_reducible show WE _ _ (Expr.Name "int" _) _ _ _); refine we_bltn (v := .ty "int") rfl (by assumption) (by decide +kernel) rfl ?_))
  | `(tactic| walk_at "t") => `(tactic| first
  | ((with_reducible show WS _ _ (Stmt.Assign [Expr.Name _ _] _ _) _ _ _); walk_at "tS")
  | ((with_reducible show WG _ _ (Expr.Name _ _) _ _ _ _); walk_at "tG")
  | ((with_reducible show WS _ _ (Stmt.Assign [Expr.Tuple _ _ _] _ _) _ _ _); refine ws_asg ?_))
  | `(tactic| walk_at "c") => `(tactic| first
  | ((with_reducible refine gCK "formula_from" ?_); refine we_cl "formula_from" ?_)
  | ((with_reducible show WE _ _ (Expr.Call (Expr.Name "formula_from" _) [] [_] _) _ _ _); refine we_callK0 (x := "formula_from") (ks := ["stretch"]) (by assumption) (by walk_at "r") rfl ?_)
  | ((with_reducible refine gCK "formula_for" ?_); refine we_cl "formula_for" ?_)
  | ((with_reducible refine gCK "lies_on" ?_); refine we_cl "lies_on" ?_)
  | ((with_reducible show WE _ _ (Expr.Call (Expr.Name "formula_for" _) [] [_] _) _ _ _); refine we_callK0 (x := "formula_for") (ks := ["book"]) (by assumption) (by walk_at "r") rfl ?_)
  | ((with_reducible show WE _ _ (Expr.Call (Expr.Name "lies_on" _) [] [_, _] _) _ _ _); refine we_callK0 (x := "lies_on") (ks := ["book", "formula"]) (by assumption) (by walk_at "r") rfl ?_)
  | ((with_reducible refine gCK "_law_store" ?_); refine we_cl "_law_store" ?_)
  | ((with_reducible refine gCK "_law_pick" ?_); refine we_cl "_law_pick" ?_)
  | ((with_reducible refine gCK "_law_from_right" ?_); refine we_cl "_law_from_right" ?_)
  | ((with_reducible refine gCK "_law_for_right" ?_); refine we_cl "_law_for_right" ?_))
  | `(tactic| walk_at "eWEBinOp") => `(tactic| ((with_reducible show WE _ _ (Expr.BinOp (Expr.List _ _) Operator.Mult _ _) _ _ _); refine we_mulL (we_lstC ?_)))
theorem fn_law {f : Addr} {fd : FuncData} (b_int : mg "int" = none) (b_len : mg "len" = none) (b_max : mg "max" = none) (b_min : mg "min" = none) (b_range : mg "range" = none)
    (d_store : FD P w K mg base 1 "_law_store" 2 TStore) (d_pick : FD P w K mg base 1 "_law_pick" 2 TPick) (d_fr : FDG P w K mg base 7 "_law_from_right" 2 TFromR) (d_for : FD P w K mg base 8 "_law_for_right" 1 TForR)
    (d_from : FD P w K mg base 6 "formula_from" 1 TFromC) (d_form : FD P w K mg base 7 "formula_for" 1 TForE) (d_lies : FD P w K mg base 6 "lies_on" 2 TLies)
    (k_from : FDK P w K mg base 6 "formula_from" 0 ["stretch"] [0] TFromC) (k_form : FDK P w K mg base 7 "formula_for" 0 ["book"] [0] TForC) (k_lies : FDK P w K mg base 6 "lies_on" 0 ["book", "formula"] [0, 1] TLies)
    (Fn : L2.Fun K "law" "law" st_law f fd) :
    FnG P w K mg base (L2.CX P w) 9 f fd ["_law_script"] (spG K TLaw) := by
  refine fn_okG Fn sc_law rfl TLaw_len ?_
  intro cdv A outer s H E hgd N hr ds M Q X' h
  obtain ⟨ns, rfl, hns, q⟩ := h
  show WB _ _ _ [some _, none, none, none, none, none, none] _ _
  refine wb_cons ?_
  refine ws_for N (wi_range1 rfl (by assumption) ?_)
  walk_at "g"
  refine ⟨_, _, rfl, ?_⟩
  walk_at "g"
  refine ⟨_, _, rfl, ?_⟩
  walk_at "g"
  rw [List.length_map]
  generalize hw : (if (if (ns.length : Int) < 4 then (ns.length : Int) else 4) > 1 then (if (ns.length : Int) < 4 then (ns.length : Int) else 4) else 1) = wide
  have hw4 : 1 ≤ wide ∧ wide ≤ 4 := by rw [← hw]; split <;> split <;> omega
  refine ⟨by omega, by omega, fun j δ' M' => ∃ (x1 x2 x3 x4 : Option D) (rest : Cells), δ' = [some (.lst (ns.map D.int)), x1, x2, x3, x4, none, none] ∧ M' = rest ++ M, ?_, fun _ _ _ _ _ => trivial, ?_, ?_⟩
  · exact ⟨_, _, _, _, [], rfl, rfl⟩
  · rintro j d δ' M' hd ⟨x1, x2, x3, x4, rest, rfl, rfl⟩
    obtain ⟨hj, rfl⟩ := rangeD_inv hd
    rw [show (0 : Int) + (j : Nat) = (j : Nat) by omega]
    walk_at "s"
    refine wb_drop (List.sublist_append_right _ _) ?_
    walk_at "g"
    refine ⟨ns, j, rfl, by omega, by omega, fun p L hL => ?_⟩
    walk_at "g"
    refine ws_for N (wi_tup ?_)
    walk_at "g"
    refine tpick (by decide) (by decide) (cl_0 ⟨_, hL, by decide, fun r1 L1 h10 h11 hL1 => ?_⟩)
    walk_at "g"
    refine we_lst ?_
    walk_at "g"
    obtain ⟨i2, m2, hi2, ha2, hm21, hm22⟩ : ∃ i m2 : Nat, (if decide (0 < (j : Int)) = true then (1 : Int) else 0) = i ∧ atI [D.int 40, D.int 14] i = some (.int m2) ∧ 1 ≤ m2 ∧ m2 ≤ 40 := by
      by_cases h : 0 < (j : Int)
      · exact ⟨1, 14, by rw [decide_eq_true h]; rfl, rfl, by decide, by decide⟩
      · exact ⟨0, 40, by rw [decide_eq_false h]; rfl, rfl, by decide, by decide⟩
    refine .inr (.inl ⟨_, rfl, ?_⟩)
    rw [hi2]
    walk_at "g"
    refine ⟨_, ha2, ?_⟩
    walk_at "g"
    obtain ⟨c, hc⟩ : ∃ c : Nat, (c : Int) = 1 + r1 := ⟨(1 + r1).toNat, by omega⟩
    rw [← hc]
    have hm : ∀ (i : Nat) (d : D), [D.int (c : Int), D.int (m2 : Int)][i]? = some d → ∃ m : Nat, d = .int m ∧ 1 ≤ m ∧ m ≤ 40 := fun i d hd => by
      have hx := List.mem_of_getElem? hd
      simp only [List.mem_cons, List.not_mem_nil, or_false] at hx
      rcases hx with rfl | rfl
      · exact ⟨c, rfl, by omega, by omega⟩
      · exact ⟨m2, rfl, hm21, hm22⟩
    refine ⟨_, rfl, fun i δ' M' => ∃ (y3 : Option D) (L' : List D) (rest : Cells), δ' = [some (.lst (ns.map D.int)), some (.int j), some (.cel p), y3, x4, none, none] ∧ StoreL (2 + 5000 * i) L' ∧ M' = rest ++ (p, .lst L') :: M, ?_, fun _ _ _ _ _ => trivial, ?_, ?_⟩
    · exact ⟨_, L1, [], rfl, hL1.up (by omega), rfl⟩
    · rintro i d δ' M' hd ⟨y3, L', rest, rfl, hL', rfl⟩
      have hi : i < 2 := (List.getElem?_eq_some_iff.mp hd).1
      obtain ⟨m, rfl, hma, hmb⟩ := hm i d hd
      walk_at "s"
      refine wb_drop (List.sublist_append_right _ _) ?_
      walk_at "g"
      refine we_callG d_fr hgd (by walk_at "r") rfl ?_
      walk_at "g"
      refine ⟨p, m, rfl, hma, hmb, cl_0 ⟨_, hL', by omega, fun L2 rest2 hL2 => ?_⟩⟩
      walk_at "g"
      exact ⟨_, L2, rest2, rfl, hL2.up (by omega), rfl⟩
    · rintro δ' M' ⟨y3, L', rest, rfl, hL', rfl⟩
      refine wb_drop (List.sublist_append_right _ _) ?_
      refine wb_one (ws_for N (wi_range1 rfl (by assumption) ?_))
      walk_at "g"
      refine ⟨by omega, by omega, fun i δ' M' => ∃ (y4 : Option D) (L' : List D) (rest : Cells), δ' = [some (.lst (ns.map D.int)), some (.int j), some (.cel p), y3, y4, none, none] ∧ StoreL (10010 + 200 * i) L' ∧ M' = rest ++ (p, .lst L') :: M, ?_, fun _ _ _ _ _ => trivial, ?_, ?_⟩
      · exact ⟨_, L', [], rfl, hL'.up (by simp only [List.length_cons, List.length_nil]; omega), rfl⟩
      · rintro i d δ' M' hd ⟨y4, L'', rest, rfl, hL'', rfl⟩
        obtain ⟨hi, rfl⟩ := rangeD_inv hd
        have hi3 : i < 3 := hi
        walk_at "s"
        refine wb_drop (List.sublist_append_right _ _) ?_
        walk_at "g"
        refine ⟨p, rfl, cl_0 ⟨_, hL'', by omega, fun L2 rest2 hL2 => ?_⟩⟩
        walk_at "g"
        exact ⟨_, L2, rest2, rfl, hL2.up (by omega), rfl⟩
      · rintro δ' M' ⟨y4, L'', rest, rfl, hL'', rfl⟩
        exact ⟨_, _, _, _, rest ++ [(p, .lst L'')], rfl, by simp⟩
  · rintro δ' M' ⟨x1, x2, x3, x4, rest, rfl, rfl⟩
    walk_at "g"
    refine we_lst ?_
    walk_at "g"
    have e1 : coefs (valF [0, 0, 0, 0, 1]) 5 = [0, 0, 0, 0, 1] := by decide +kernel
    refine ⟨_, valF [0, 0, 0, 0, 1], 5, 10, rfl, .l, by decide, by decide, valF_keeps _, valF_deg [0, 0, 0, 0, 1], by decide +kernel, fun s1 k1 v1 f1 p1 => ?_⟩
    obtain rfl := known (t := [0, 0, 0, 0, 1]) k1 ⟨by decide, .inr (by decide)⟩ v1 f1.len (by decide) (by decide +kernel)
    walk_at "g"
    refine we_lst ?_
    walk_at "g"
    refine req_intsN (xs := [0, 0, 0, 0, 1]) (ys := [0, 0, 0, 0, 1]) (.c 0 rfl) .l ?_
    rw [decide_eq_true rfl]
    walk_at "g"
    refine we_lst ?_
    walk_at "g"
    refine ⟨_, valF [1, 1, 1], 4, 10, rfl, .l, by decide, by decide, valF_keeps _, (valF_deg [1, 1, 1]).le (by decide), by decide +kernel, fun s2 k2 v2 f2 p2 => ?_⟩
    obtain rfl := known (t := [1, 1, 1]) k2 ⟨by decide, .inr (by decide)⟩ v2 f2.len (by decide) (by decide +kernel)
    walk_at "g"
    refine we_lst ?_
    walk_at "g"
    refine req_intsN (xs := [1, 1, 1]) (ys := [1, 1, 1]) (.c 0 rfl) .l ?_
    rw [decide_eq_true rfl]
    walk_at "g"
    refine we_lst ?_
    walk_at "g"
    refine ⟨_, wideB, rfl, .l, wide_ok, .inr ⟨-20, 40, wide_ends, by decide, fun s hs hv hf p3 => ?_⟩⟩
    have hsx : ∀ x ∈ wideB, valF s x.1 = x.2 := fun x hx => by rw [hv]; exact wide_fill x hx
    walk_at "g"
    refine we_lst ?_
    walk_at "g"
    refine we_lst ?_
    walk_at "g"
    refine ⟨_, _, wideB, s, 41, 5000, rfl, .l, .c 0 rfl, wide_ok.1, hf, by decide, by decide, ?_⟩
    rw [liesB_true hsx]
    walk_at "g"
    refine we_lst ?_
    walk_at "g"
    refine ⟨_, rfl, .l, ?_⟩
    walk_at "g"
    refine we_lst ?_
    walk_at "g"
    refine we_lst ?_
    walk_at "g"
    refine ⟨_, _, [], [7], 1, 5, rfl, .l, .l, ⟨by decide, by simp, .nil⟩, ⟨by decide, by decide, by decide⟩, by decide, by decide, ?_⟩
    rw [show liesB [] [7] = true from rfl]
    walk_at "g"
    rw [List.length_map]
    rw [decide_eq_true (show (s.length : Int) < 42 by have := hf.len; omega)]
    walk_at "g"
    refine we_lst ?_
    walk_at "g"
    refine we_lst ?_
    walk_at "g"
    show REq false told26 told26 _ _
    refine req_d (p := py told26) (q := py told26) (.inl ⟨by decide, rfl⟩) (.inl ⟨by decide, rfl⟩) (by decide) (by decide) ?_
    rw [show PyData.eqv (py told26) (py told26) = true by decide]
    walk_at "g"
    intro p2
    walk_at "g"
    refine ⟨0, p2, [.int 0], 40, rfl, rfl, rfl, by decide, by decide, by show 40 ≤ sizeLine; decide, ?_⟩
    walk_at "g"
    refine ⟨.lst ((List.replicate 40 (0 : Int)).map D.int), valF [0], 40, 1, rfl, .l, by decide, by decide, valF_keeps _, (valF_deg [0]).le (by decide), by decide +kernel, fun s4 k4 v4 f4 p4 => ?_⟩
    obtain rfl := known (t := [0]) k4 ⟨by decide, .inl rfl⟩ v4 f4.len (by decide) (fun i _ => rfl)
    walk_at "g"
    refine we_lst ?_
    walk_at "g"
    refine req_ints (xs := [0]) (ys := [0]) (.c 0 rfl) .l ?_
    rw [decide_eq_true rfl]
    exact q _
end
/-! FfEnd -/
theorem law_sp {K : PySem.W.Frag} {H : Hp} {a : Addr} {ns : List Int} (hl : ns.length ≤ 63) (hS : SqL K H a (ns.map V.int)) : spG K TLaw [.ref a] H (fun v _ => v = .bl true) fun _ _ _ => False :=
  ⟨H, [], [.lst (ns.map D.int)], { le := Same.refl _, nd := List.Pairwise.nil, cell := (fun _ h => nomatch h), out := (fun _ h => nomatch h), slot := (fun _ _ h => nomatch h), dlen := rfl }, .cons (.lst hS (Reps.ints ns)) .nil, ns, rfl, hl, fun M' v F' H' _ _ r => by cases r; rfl⟩
theorem refs_one (a : Addr) : PySem.HandSPX.refsVE [.ref a, .type "ValueError", .type "Exception", .type "BaseException", .type "object"] = true := by
  show PySem.HandSPX.refsVE [.type "ValueError", .type "Exception", .type "BaseException", .type "object"] = true
  decide +kernel
theorem exm_self {K : PySem.W.Frag} {S : Addr} (h1 : PySem.W.subIn K (.ref S) (.type "BaseException") = some true) (h2 : PySem.W.isClsIn K S = true) (h3 : PySem.W.typeIn K (.ref S) = some (.type "type")) (h4 : PySem.W.subIn K (.ref S) (.ref S) = some true) :
    PySem.W.exmOne K (.ref S) (.ref S) = some true := by
  have e1 : (PySem.W.subIn K (.ref S) (.type "BaseException") == some true) = true := by rw [h1] <;> rfl
  have e2 : ((PySem.W.clsIn K S).isSome && PySem.W.typeIn K (.ref S) == some (.type "type")) = true := by
    have h2' : (PySem.W.clsIn K S).isSome = true := h2
    rw [h2', h3] <;> rfl
  show (if (PySem.W.subIn K (.ref S) (.type "BaseException") == some true) = true then (if ((PySem.W.clsIn K S).isSome && PySem.W.typeIn K (.ref S) == some (.type "type")) = true then PySem.W.subIn K (.ref S) (.ref S) else none) else none) = some true
  rw [if_pos e1, if_pos e2]
  exact h4
theorem top_all {l : PySem.W.OpenLaw} {w : World} {K : PySem.W.Frag} {h : Heap} {mg : Str → Option Value} {fa f_is_integer f_is_told f_is_item f_is_book f_need_book f_divisor_of f_multiple_of f_divides f_do_fit f_conflicts_in f_conflict_in f_need_fitting f_need_possible f_inverse_of f_met f_class_by f_first_from f_is_stretch f_need_stretch f_items_in f_need_right f_differences_in f_is_formula f_need_formula f_multiple_to f_plain_of f_value_in f_values_in f_formula_by f_moved_in f_values_of f_formula_from f_formula_for f_lies_on f_l_store f_l_pick f_l_common f_l_chosen f_l_value f_l_row f_l_bare f_l_spot f_l_made f_l_modest f_l_from_right f_l_book f_l_for_right f_law : Addr} (X : K.In h) (G : h.Ns mainGlobals mg) (hfa : mg "law" = some (.ref fa))
    {od_is_integer an_is_integer : Option Addr} {sl_is_integer : Array (Option Value)} {oc_is_integer kV_is_integer dc_is_integer pm_is_integer cd_is_integer ct_is_integer : Value}
    {od_is_told an_is_told : Option Addr} {sl_is_told : Array (Option Value)} {oc_is_told kV_is_told dc_is_told pm_is_told cd_is_told ct_is_told : Value}
    {od_is_item an_is_item : Option Addr} {sl_is_item : Array (Option Value)} {oc_is_item kV_is_item dc_is_item pm_is_item cd_is_item ct_is_item : Value}
    {od_is_book an_is_book : Option Addr} {sl_is_book : Array (Option Value)} {oc_is_book kV_is_book dc_is_book pm_is_book cd_is_book ct_is_book : Value}
    {od_need_book an_need_book : Option Addr} {sl_need_book : Array (Option Value)} {oc_need_book kV_need_book dc_need_book pm_need_book cd_need_book ct_need_book : Value}
    {od_divisor_of an_divisor_of : Option Addr} {sl_divisor_of : Array (Option Value)} {oc_divisor_of kV_divisor_of dc_divisor_of pm_divisor_of cd_divisor_of ct_divisor_of : Value}
    {od_multiple_of an_multiple_of : Option Addr} {sl_multiple_of : Array (Option Value)} {oc_multiple_of kV_multiple_of dc_multiple_of pm_multiple_of cd_multiple_of ct_multiple_of : Value}
    {od_divides an_divides : Option Addr} {sl_divides : Array (Option Value)} {oc_divides kV_divides dc_divides pm_divides cd_divides ct_divides : Value}
    {od_do_fit an_do_fit : Option Addr} {sl_do_fit : Array (Option Value)} {oc_do_fit kV_do_fit dc_do_fit pm_do_fit cd_do_fit ct_do_fit : Value}
    {od_conflicts_in an_conflicts_in : Option Addr} {sl_conflicts_in : Array (Option Value)} {oc_conflicts_in kV_conflicts_in dc_conflicts_in pm_conflicts_in cd_conflicts_in ct_conflicts_in : Value}
    {od_conflict_in an_conflict_in : Option Addr} {sl_conflict_in : Array (Option Value)} {oc_conflict_in kV_conflict_in dc_conflict_in pm_conflict_in cd_conflict_in ct_conflict_in : Value}
    {od_need_fitting an_need_fitting : Option Addr} {sl_need_fitting : Array (Option Value)} {oc_need_fitting kV_need_fitting dc_need_fitting pm_need_fitting cd_need_fitting ct_need_fitting : Value}
    {od_need_possible an_need_possible : Option Addr} {sl_need_possible : Array (Option Value)} {oc_need_possible kV_need_possible dc_need_possible pm_need_possible cd_need_possible ct_need_possible : Value}
    {od_inverse_of an_inverse_of : Option Addr} {sl_inverse_of : Array (Option Value)} {oc_inverse_of kV_inverse_of dc_inverse_of pm_inverse_of cd_inverse_of ct_inverse_of : Value}
    {od_met an_met : Option Addr} {sl_met : Array (Option Value)} {oc_met kV_met dc_met pm_met cd_met ct_met : Value}
    {od_class_by an_class_by : Option Addr} {sl_class_by : Array (Option Value)} {oc_class_by kV_class_by dc_class_by pm_class_by cd_class_by ct_class_by : Value}
    {od_first_from an_first_from : Option Addr} {sl_first_from : Array (Option Value)} {oc_first_from kV_first_from dc_first_from pm_first_from cd_first_from ct_first_from : Value}
    {od_is_stretch an_is_stretch : Option Addr} {sl_is_stretch : Array (Option Value)} {oc_is_stretch kV_is_stretch dc_is_stretch pm_is_stretch cd_is_stretch ct_is_stretch : Value}
    {od_need_stretch an_need_stretch : Option Addr} {sl_need_stretch : Array (Option Value)} {oc_need_stretch kV_need_stretch dc_need_stretch pm_need_stretch cd_need_stretch ct_need_stretch : Value}
    {od_items_in an_items_in : Option Addr} {sl_items_in : Array (Option Value)} {oc_items_in kV_items_in dc_items_in pm_items_in cd_items_in ct_items_in : Value}
    {od_need_right an_need_right : Option Addr} {sl_need_right : Array (Option Value)} {oc_need_right kV_need_right dc_need_right pm_need_right cd_need_right ct_need_right : Value}
    {od_differences_in an_differences_in : Option Addr} {sl_differences_in : Array (Option Value)} {oc_differences_in kV_differences_in dc_differences_in pm_differences_in cd_differences_in ct_differences_in : Value}
    {od_is_formula an_is_formula : Option Addr} {sl_is_formula : Array (Option Value)} {oc_is_formula kV_is_formula dc_is_formula pm_is_formula cd_is_formula ct_is_formula : Value}
    {od_need_formula an_need_formula : Option Addr} {sl_need_formula : Array (Option Value)} {oc_need_formula kV_need_formula dc_need_formula pm_need_formula cd_need_formula ct_need_formula : Value}
    {od_multiple_to an_multiple_to : Option Addr} {sl_multiple_to : Array (Option Value)} {oc_multiple_to kV_multiple_to dc_multiple_to pm_multiple_to cd_multiple_to ct_multiple_to : Value}
    {od_plain_of an_plain_of : Option Addr} {sl_plain_of : Array (Option Value)} {oc_plain_of kV_plain_of dc_plain_of pm_plain_of cd_plain_of ct_plain_of : Value}
    {od_value_in an_value_in : Option Addr} {sl_value_in : Array (Option Value)} {oc_value_in kV_value_in dc_value_in pm_value_in cd_value_in ct_value_in : Value}
    {od_values_in an_values_in : Option Addr} {sl_values_in : Array (Option Value)} {oc_values_in kV_values_in dc_values_in pm_values_in cd_values_in ct_values_in : Value}
    {od_formula_by an_formula_by : Option Addr} {sl_formula_by : Array (Option Value)} {oc_formula_by kV_formula_by dc_formula_by pm_formula_by cd_formula_by ct_formula_by : Value}
    {od_moved_in an_moved_in : Option Addr} {sl_moved_in : Array (Option Value)} {oc_moved_in kV_moved_in dc_moved_in pm_moved_in cd_moved_in ct_moved_in : Value}
    {od_values_of an_values_of : Option Addr} {sl_values_of : Array (Option Value)} {oc_values_of kV_values_of dc_values_of pm_values_of cd_values_of ct_values_of : Value}
    {od_formula_from an_formula_from : Option Addr} {sl_formula_from : Array (Option Value)} {oc_formula_from kV_formula_from dc_formula_from pm_formula_from cd_formula_from ct_formula_from : Value}
    {od_formula_for an_formula_for : Option Addr} {sl_formula_for : Array (Option Value)} {oc_formula_for kV_formula_for dc_formula_for pm_formula_for cd_formula_for ct_formula_for : Value}
    {od_lies_on an_lies_on : Option Addr} {sl_lies_on : Array (Option Value)} {oc_lies_on kV_lies_on dc_lies_on pm_lies_on cd_lies_on ct_lies_on : Value}
    {od_l_store an_l_store : Option Addr} {sl_l_store : Array (Option Value)} {oc_l_store kV_l_store dc_l_store pm_l_store cd_l_store ct_l_store : Value}
    {od_l_pick an_l_pick : Option Addr} {sl_l_pick : Array (Option Value)} {oc_l_pick kV_l_pick dc_l_pick pm_l_pick cd_l_pick ct_l_pick : Value}
    {od_l_common an_l_common : Option Addr} {sl_l_common : Array (Option Value)} {oc_l_common kV_l_common dc_l_common pm_l_common cd_l_common ct_l_common : Value}
    {od_l_chosen an_l_chosen : Option Addr} {sl_l_chosen : Array (Option Value)} {oc_l_chosen kV_l_chosen dc_l_chosen pm_l_chosen cd_l_chosen ct_l_chosen : Value}
    {od_l_value an_l_value : Option Addr} {sl_l_value : Array (Option Value)} {oc_l_value kV_l_value dc_l_value pm_l_value cd_l_value ct_l_value : Value}
    {od_l_row an_l_row : Option Addr} {sl_l_row : Array (Option Value)} {oc_l_row kV_l_row dc_l_row pm_l_row cd_l_row ct_l_row : Value}
    {od_l_bare an_l_bare : Option Addr} {sl_l_bare : Array (Option Value)} {oc_l_bare kV_l_bare dc_l_bare pm_l_bare cd_l_bare ct_l_bare : Value}
    {od_l_spot an_l_spot : Option Addr} {sl_l_spot : Array (Option Value)} {oc_l_spot kV_l_spot dc_l_spot pm_l_spot cd_l_spot ct_l_spot : Value}
    {od_l_made an_l_made : Option Addr} {sl_l_made : Array (Option Value)} {oc_l_made kV_l_made dc_l_made pm_l_made cd_l_made ct_l_made : Value}
    {od_l_modest an_l_modest : Option Addr} {sl_l_modest : Array (Option Value)} {oc_l_modest kV_l_modest dc_l_modest pm_l_modest cd_l_modest ct_l_modest : Value}
    {od_l_from_right an_l_from_right : Option Addr} {sl_l_from_right : Array (Option Value)} {oc_l_from_right kV_l_from_right dc_l_from_right pm_l_from_right cd_l_from_right ct_l_from_right : Value}
    {od_l_book an_l_book : Option Addr} {sl_l_book : Array (Option Value)} {oc_l_book kV_l_book dc_l_book pm_l_book cd_l_book ct_l_book : Value}
    {od_l_for_right an_l_for_right : Option Addr} {sl_l_for_right : Array (Option Value)} {oc_l_for_right kV_l_for_right dc_l_for_right pm_l_for_right cd_l_for_right ct_l_for_right : Value}
    {od_law an_law : Option Addr} {sl_law : Array (Option Value)} {oc_law kV_law dc_law pm_law cd_law ct_law : Value}
    {T_is_stretch : Addr} {oq_is_stretch : Obj} {nq_is_stretch : Nat} {tk_is_stretch : Tok}
    {T_need_stretch : Addr} {oq_need_stretch : Obj} {nq_need_stretch : Nat} {tk_need_stretch : Tok}
    {fB : Addr} (aB : PySem.W.nsIn K mainGlobals "RestError" = some (some (.ref fB))) (sB : PySem.W.specialIn K (.ref fB) "__getattribute__" = some (some (.builtin "type.__getattribute__"))) (rB : PySem.W.readsIn K fB (.type "type") = true) (vB : PySem.W.findCls K (.ref fB) (.type "type") "__init__" = some (.val (.builtin "ValueError.__init__")))
    {C_Unfit fI_Unfit : Addr} {nm_Unfit qn_Unfit : Str} {N_Unfit : Addr} {bs_Unfit sub_Unfit : List Value} {sn_Unfit : List Str} {ab_Unfit : Bool} {col_Unfit : Option Bool} {dd_Unfit : Option Addr} {m0_Unfit m1_Unfit m2_Unfit m3_Unfit m5_Unfit : Option Value} {odI_Unfit anI_Unfit : Option Addr} {slI_Unfit : Array (Option Value)} {ocI_Unfit kVI_Unfit dcI_Unfit pmI_Unfit cdI_Unfit ctI_Unfit : Value}
    (aC_Unfit : PySem.W.nsIn K mainGlobals "Unfit" = some (some (.ref C_Unfit))) (xL_Unfit : K.lookup C_Unfit = some (excClassObj nm_Unfit qn_Unfit C_Unfit N_Unfit bs_Unfit [.ref fB, .type "ValueError", .type "Exception", .type "BaseException", .type "object"] true sn_Unfit sub_Unfit ab_Unfit col_Unfit dd_Unfit m0_Unfit m1_Unfit m2_Unfit m3_Unfit m5_Unfit "ValueError.__new__"))
    (sa_Unfit : PySem.W.findIn K (.ref C_Unfit) "__setattr__" = some (some (.builtin "object.__setattr__"))) (ga_Unfit : PySem.W.findIn K (.ref C_Unfit) "__getattribute__" = some (some (.builtin "BaseException.__getattribute__"))) (gg_Unfit : PySem.W.findIn K (.ref C_Unfit) "__getattr__" = some none)
    (nf0_Unfit : PySem.W.findIn K (.ref C_Unfit) "first" = some none)
    (nf1_Unfit : PySem.W.findIn K (.ref C_Unfit) "second" = some none)
    (iC_Unfit : PySem.W.findIn K (.ref C_Unfit) "__init__" = some (some (.ref fI_Unfit))) (tI_Unfit : PySem.W.typeIn K (.ref fI_Unfit) = some (.type "function"))
    (lI_Unfit : K.lookup fI_Unfit = some ⟨ocI_Unfit, odI_Unfit, .func (PySem.W.fnOf "__init__" "Unfit.__init__" (defArgs st_Unfit___init__) (defBody st_Unfit___init__) (defScope st_Unfit___init__) .none kVI_Unfit dcI_Unfit pmI_Unfit anI_Unfit cdI_Unfit ctI_Unfit), slI_Unfit⟩) (cI_Unfit : PySem.W.codeIn K cdI_Unfit "Unfit.__init__" = true) (kI_Unfit : PySem.W.keepIn K (.ref fI_Unfit) = true)
    (kC_Unfit : PySem.W.keepIn K (.ref C_Unfit) = true) (eC_Unfit : PySem.W.subIn K (.ref C_Unfit) (.type "BaseException") = some true) (tC_Unfit : PySem.W.typeIn K (.ref C_Unfit) = some (.type "type")) (hC_Unfit : PySem.W.hasDictIn K C_Unfit = true) (isC_Unfit : PySem.W.isClsIn K C_Unfit = true) (sC_Unfit : PySem.W.subIn K (.ref C_Unfit) (.ref C_Unfit) = some true)
    (a_is_integer : PySem.W.nsIn K mainGlobals "is_integer" = some (some (.ref f_is_integer))) (l_is_integer : K.lookup f_is_integer = some ⟨oc_is_integer, od_is_integer, .func (PySem.W.fnOf "is_integer" "is_integer" (defArgs st_is_integer) (defBody st_is_integer) (defScope st_is_integer) .none kV_is_integer dc_is_integer pm_is_integer an_is_integer cd_is_integer ct_is_integer), sl_is_integer⟩) (c_is_integer : PySem.W.codeIn K cd_is_integer "is_integer" = true) (k_is_integer : PySem.W.keepIn K (.ref f_is_integer) = true)
    (a_is_told : PySem.W.nsIn K mainGlobals "is_told" = some (some (.ref f_is_told))) (l_is_told : K.lookup f_is_told = some ⟨oc_is_told, od_is_told, .func (PySem.W.fnOf "is_told" "is_told" (defArgs st_is_told) (defBody st_is_told) (defScope st_is_told) .none kV_is_told dc_is_told pm_is_told an_is_told cd_is_told ct_is_told), sl_is_told⟩) (c_is_told : PySem.W.codeIn K cd_is_told "is_told" = true) (k_is_told : PySem.W.keepIn K (.ref f_is_told) = true)
    (a_is_item : PySem.W.nsIn K mainGlobals "is_item" = some (some (.ref f_is_item))) (l_is_item : K.lookup f_is_item = some ⟨oc_is_item, od_is_item, .func (PySem.W.fnOf "is_item" "is_item" (defArgs st_is_item) (defBody st_is_item) (defScope st_is_item) .none kV_is_item dc_is_item pm_is_item an_is_item cd_is_item ct_is_item), sl_is_item⟩) (c_is_item : PySem.W.codeIn K cd_is_item "is_item" = true) (k_is_item : PySem.W.keepIn K (.ref f_is_item) = true)
    (a_is_book : PySem.W.nsIn K mainGlobals "is_book" = some (some (.ref f_is_book))) (l_is_book : K.lookup f_is_book = some ⟨oc_is_book, od_is_book, .func (PySem.W.fnOf "is_book" "is_book" (defArgs st_is_book) (defBody st_is_book) (defScope st_is_book) .none kV_is_book dc_is_book pm_is_book an_is_book cd_is_book ct_is_book), sl_is_book⟩) (c_is_book : PySem.W.codeIn K cd_is_book "is_book" = true) (k_is_book : PySem.W.keepIn K (.ref f_is_book) = true)
    (a_need_book : PySem.W.nsIn K mainGlobals "need_book" = some (some (.ref f_need_book))) (l_need_book : K.lookup f_need_book = some ⟨oc_need_book, od_need_book, .func (PySem.W.fnOf "need_book" "need_book" (defArgs st_need_book) (defBody st_need_book) (defScope st_need_book) .none kV_need_book dc_need_book pm_need_book an_need_book cd_need_book ct_need_book), sl_need_book⟩) (c_need_book : PySem.W.codeIn K cd_need_book "need_book" = true) (k_need_book : PySem.W.keepIn K (.ref f_need_book) = true)
    (a_divisor_of : PySem.W.nsIn K mainGlobals "divisor_of" = some (some (.ref f_divisor_of))) (l_divisor_of : K.lookup f_divisor_of = some ⟨oc_divisor_of, od_divisor_of, .func (PySem.W.fnOf "divisor_of" "divisor_of" (defArgs st_divisor_of) (defBody st_divisor_of) (defScope st_divisor_of) .none kV_divisor_of dc_divisor_of pm_divisor_of an_divisor_of cd_divisor_of ct_divisor_of), sl_divisor_of⟩) (c_divisor_of : PySem.W.codeIn K cd_divisor_of "divisor_of" = true) (k_divisor_of : PySem.W.keepIn K (.ref f_divisor_of) = true)
    (a_multiple_of : PySem.W.nsIn K mainGlobals "multiple_of" = some (some (.ref f_multiple_of))) (l_multiple_of : K.lookup f_multiple_of = some ⟨oc_multiple_of, od_multiple_of, .func (PySem.W.fnOf "multiple_of" "multiple_of" (defArgs st_multiple_of) (defBody st_multiple_of) (defScope st_multiple_of) .none kV_multiple_of dc_multiple_of pm_multiple_of an_multiple_of cd_multiple_of ct_multiple_of), sl_multiple_of⟩) (c_multiple_of : PySem.W.codeIn K cd_multiple_of "multiple_of" = true) (k_multiple_of : PySem.W.keepIn K (.ref f_multiple_of) = true)
    (a_divides : PySem.W.nsIn K mainGlobals "divides" = some (some (.ref f_divides))) (l_divides : K.lookup f_divides = some ⟨oc_divides, od_divides, .func (PySem.W.fnOf "divides" "divides" (defArgs st_divides) (defBody st_divides) (defScope st_divides) .none kV_divides dc_divides pm_divides an_divides cd_divides ct_divides), sl_divides⟩) (c_divides : PySem.W.codeIn K cd_divides "divides" = true) (k_divides : PySem.W.keepIn K (.ref f_divides) = true)
    (a_do_fit : PySem.W.nsIn K mainGlobals "do_fit" = some (some (.ref f_do_fit))) (l_do_fit : K.lookup f_do_fit = some ⟨oc_do_fit, od_do_fit, .func (PySem.W.fnOf "do_fit" "do_fit" (defArgs st_do_fit) (defBody st_do_fit) (defScope st_do_fit) .none kV_do_fit dc_do_fit pm_do_fit an_do_fit cd_do_fit ct_do_fit), sl_do_fit⟩) (c_do_fit : PySem.W.codeIn K cd_do_fit "do_fit" = true) (k_do_fit : PySem.W.keepIn K (.ref f_do_fit) = true)
    (a_conflicts_in : PySem.W.nsIn K mainGlobals "conflicts_in" = some (some (.ref f_conflicts_in))) (l_conflicts_in : K.lookup f_conflicts_in = some ⟨oc_conflicts_in, od_conflicts_in, .func (PySem.W.fnOf "conflicts_in" "conflicts_in" (defArgs st_conflicts_in) (defBody st_conflicts_in) (defScope st_conflicts_in) .none kV_conflicts_in dc_conflicts_in pm_conflicts_in an_conflicts_in cd_conflicts_in ct_conflicts_in), sl_conflicts_in⟩) (c_conflicts_in : PySem.W.codeIn K cd_conflicts_in "conflicts_in" = true) (k_conflicts_in : PySem.W.keepIn K (.ref f_conflicts_in) = true)
    (a_conflict_in : PySem.W.nsIn K mainGlobals "conflict_in" = some (some (.ref f_conflict_in))) (l_conflict_in : K.lookup f_conflict_in = some ⟨oc_conflict_in, od_conflict_in, .func (PySem.W.fnOf "conflict_in" "conflict_in" (defArgs st_conflict_in) (defBody st_conflict_in) (defScope st_conflict_in) .none kV_conflict_in dc_conflict_in pm_conflict_in an_conflict_in cd_conflict_in ct_conflict_in), sl_conflict_in⟩) (c_conflict_in : PySem.W.codeIn K cd_conflict_in "conflict_in" = true) (k_conflict_in : PySem.W.keepIn K (.ref f_conflict_in) = true)
    (a_need_fitting : PySem.W.nsIn K mainGlobals "need_fitting" = some (some (.ref f_need_fitting))) (l_need_fitting : K.lookup f_need_fitting = some ⟨oc_need_fitting, od_need_fitting, .func (PySem.W.fnOf "need_fitting" "need_fitting" (defArgs st_need_fitting) (defBody st_need_fitting) (defScope st_need_fitting) .none kV_need_fitting dc_need_fitting pm_need_fitting an_need_fitting cd_need_fitting ct_need_fitting), sl_need_fitting⟩) (c_need_fitting : PySem.W.codeIn K cd_need_fitting "need_fitting" = true) (k_need_fitting : PySem.W.keepIn K (.ref f_need_fitting) = true)
    (a_need_possible : PySem.W.nsIn K mainGlobals "need_possible" = some (some (.ref f_need_possible))) (l_need_possible : K.lookup f_need_possible = some ⟨oc_need_possible, od_need_possible, .func (PySem.W.fnOf "need_possible" "need_possible" (defArgs st_need_possible) (defBody st_need_possible) (defScope st_need_possible) .none kV_need_possible dc_need_possible pm_need_possible an_need_possible cd_need_possible ct_need_possible), sl_need_possible⟩) (c_need_possible : PySem.W.codeIn K cd_need_possible "need_possible" = true) (k_need_possible : PySem.W.keepIn K (.ref f_need_possible) = true)
    (a_inverse_of : PySem.W.nsIn K mainGlobals "inverse_of" = some (some (.ref f_inverse_of))) (l_inverse_of : K.lookup f_inverse_of = some ⟨oc_inverse_of, od_inverse_of, .func (PySem.W.fnOf "inverse_of" "inverse_of" (defArgs st_inverse_of) (defBody st_inverse_of) (defScope st_inverse_of) .none kV_inverse_of dc_inverse_of pm_inverse_of an_inverse_of cd_inverse_of ct_inverse_of), sl_inverse_of⟩) (c_inverse_of : PySem.W.codeIn K cd_inverse_of "inverse_of" = true) (k_inverse_of : PySem.W.keepIn K (.ref f_inverse_of) = true)
    (a_met : PySem.W.nsIn K mainGlobals "met" = some (some (.ref f_met))) (l_met : K.lookup f_met = some ⟨oc_met, od_met, .func (PySem.W.fnOf "met" "met" (defArgs st_met) (defBody st_met) (defScope st_met) .none kV_met dc_met pm_met an_met cd_met ct_met), sl_met⟩) (c_met : PySem.W.codeIn K cd_met "met" = true) (k_met : PySem.W.keepIn K (.ref f_met) = true)
    (a_class_by : PySem.W.nsIn K mainGlobals "class_by" = some (some (.ref f_class_by))) (l_class_by : K.lookup f_class_by = some ⟨oc_class_by, od_class_by, .func (PySem.W.fnOf "class_by" "class_by" (defArgs st_class_by) (defBody st_class_by) (defScope st_class_by) .none kV_class_by dc_class_by pm_class_by an_class_by cd_class_by ct_class_by), sl_class_by⟩) (c_class_by : PySem.W.codeIn K cd_class_by "class_by" = true) (k_class_by : PySem.W.keepIn K (.ref f_class_by) = true)
    (a_first_from : PySem.W.nsIn K mainGlobals "first_from" = some (some (.ref f_first_from))) (l_first_from : K.lookup f_first_from = some ⟨oc_first_from, od_first_from, .func (PySem.W.fnOf "first_from" "first_from" (defArgs st_first_from) (defBody st_first_from) (defScope st_first_from) .none kV_first_from dc_first_from pm_first_from an_first_from cd_first_from ct_first_from), sl_first_from⟩) (c_first_from : PySem.W.codeIn K cd_first_from "first_from" = true) (k_first_from : PySem.W.keepIn K (.ref f_first_from) = true)
    (a_is_stretch : PySem.W.nsIn K mainGlobals "is_stretch" = some (some (.ref f_is_stretch))) (l_is_stretch : K.lookup f_is_stretch = some ⟨oc_is_stretch, od_is_stretch, .func (PySem.W.fnOf "is_stretch" "is_stretch" (defArgs st_is_stretch) (defBody st_is_stretch) (defScope st_is_stretch) (.ref T_is_stretch) kV_is_stretch dc_is_stretch pm_is_stretch an_is_stretch cd_is_stretch ct_is_stretch), sl_is_stretch⟩) (lt_is_stretch : K.lookup T_is_stretch = some oq_is_stretch) (ot_is_stretch : oq_is_stretch.data = .seq #[.int 40 tk_is_stretch] nq_is_stretch) (c_is_stretch : PySem.W.codeIn K cd_is_stretch "is_stretch" = true) (k_is_stretch : PySem.W.keepIn K (.ref f_is_stretch) = true)
    (a_need_stretch : PySem.W.nsIn K mainGlobals "need_stretch" = some (some (.ref f_need_stretch))) (l_need_stretch : K.lookup f_need_stretch = some ⟨oc_need_stretch, od_need_stretch, .func (PySem.W.fnOf "need_stretch" "need_stretch" (defArgs st_need_stretch) (defBody st_need_stretch) (defScope st_need_stretch) (.ref T_need_stretch) kV_need_stretch dc_need_stretch pm_need_stretch an_need_stretch cd_need_stretch ct_need_stretch), sl_need_stretch⟩) (lt_need_stretch : K.lookup T_need_stretch = some oq_need_stretch) (ot_need_stretch : oq_need_stretch.data = .seq #[.int 40 tk_need_stretch] nq_need_stretch) (c_need_stretch : PySem.W.codeIn K cd_need_stretch "need_stretch" = true) (k_need_stretch : PySem.W.keepIn K (.ref f_need_stretch) = true)
    (a_items_in : PySem.W.nsIn K mainGlobals "items_in" = some (some (.ref f_items_in))) (l_items_in : K.lookup f_items_in = some ⟨oc_items_in, od_items_in, .func (PySem.W.fnOf "items_in" "items_in" (defArgs st_items_in) (defBody st_items_in) (defScope st_items_in) .none kV_items_in dc_items_in pm_items_in an_items_in cd_items_in ct_items_in), sl_items_in⟩) (c_items_in : PySem.W.codeIn K cd_items_in "items_in" = true) (k_items_in : PySem.W.keepIn K (.ref f_items_in) = true)
    (a_need_right : PySem.W.nsIn K mainGlobals "need_right" = some (some (.ref f_need_right))) (l_need_right : K.lookup f_need_right = some ⟨oc_need_right, od_need_right, .func (PySem.W.fnOf "need_right" "need_right" (defArgs st_need_right) (defBody st_need_right) (defScope st_need_right) .none kV_need_right dc_need_right pm_need_right an_need_right cd_need_right ct_need_right), sl_need_right⟩) (c_need_right : PySem.W.codeIn K cd_need_right "need_right" = true) (k_need_right : PySem.W.keepIn K (.ref f_need_right) = true)
    (a_differences_in : PySem.W.nsIn K mainGlobals "differences_in" = some (some (.ref f_differences_in))) (l_differences_in : K.lookup f_differences_in = some ⟨oc_differences_in, od_differences_in, .func (PySem.W.fnOf "differences_in" "differences_in" (defArgs st_differences_in) (defBody st_differences_in) (defScope st_differences_in) .none kV_differences_in dc_differences_in pm_differences_in an_differences_in cd_differences_in ct_differences_in), sl_differences_in⟩) (c_differences_in : PySem.W.codeIn K cd_differences_in "differences_in" = true) (k_differences_in : PySem.W.keepIn K (.ref f_differences_in) = true)
    (a_is_formula : PySem.W.nsIn K mainGlobals "is_formula" = some (some (.ref f_is_formula))) (l_is_formula : K.lookup f_is_formula = some ⟨oc_is_formula, od_is_formula, .func (PySem.W.fnOf "is_formula" "is_formula" (defArgs st_is_formula) (defBody st_is_formula) (defScope st_is_formula) .none kV_is_formula dc_is_formula pm_is_formula an_is_formula cd_is_formula ct_is_formula), sl_is_formula⟩) (c_is_formula : PySem.W.codeIn K cd_is_formula "is_formula" = true) (k_is_formula : PySem.W.keepIn K (.ref f_is_formula) = true)
    (a_need_formula : PySem.W.nsIn K mainGlobals "need_formula" = some (some (.ref f_need_formula))) (l_need_formula : K.lookup f_need_formula = some ⟨oc_need_formula, od_need_formula, .func (PySem.W.fnOf "need_formula" "need_formula" (defArgs st_need_formula) (defBody st_need_formula) (defScope st_need_formula) .none kV_need_formula dc_need_formula pm_need_formula an_need_formula cd_need_formula ct_need_formula), sl_need_formula⟩) (c_need_formula : PySem.W.codeIn K cd_need_formula "need_formula" = true) (k_need_formula : PySem.W.keepIn K (.ref f_need_formula) = true)
    (a_multiple_to : PySem.W.nsIn K mainGlobals "multiple_to" = some (some (.ref f_multiple_to))) (l_multiple_to : K.lookup f_multiple_to = some ⟨oc_multiple_to, od_multiple_to, .func (PySem.W.fnOf "multiple_to" "multiple_to" (defArgs st_multiple_to) (defBody st_multiple_to) (defScope st_multiple_to) .none kV_multiple_to dc_multiple_to pm_multiple_to an_multiple_to cd_multiple_to ct_multiple_to), sl_multiple_to⟩) (c_multiple_to : PySem.W.codeIn K cd_multiple_to "multiple_to" = true) (k_multiple_to : PySem.W.keepIn K (.ref f_multiple_to) = true)
    (a_plain_of : PySem.W.nsIn K mainGlobals "plain_of" = some (some (.ref f_plain_of))) (l_plain_of : K.lookup f_plain_of = some ⟨oc_plain_of, od_plain_of, .func (PySem.W.fnOf "plain_of" "plain_of" (defArgs st_plain_of) (defBody st_plain_of) (defScope st_plain_of) .none kV_plain_of dc_plain_of pm_plain_of an_plain_of cd_plain_of ct_plain_of), sl_plain_of⟩) (c_plain_of : PySem.W.codeIn K cd_plain_of "plain_of" = true) (k_plain_of : PySem.W.keepIn K (.ref f_plain_of) = true)
    (a_value_in : PySem.W.nsIn K mainGlobals "value_in" = some (some (.ref f_value_in))) (l_value_in : K.lookup f_value_in = some ⟨oc_value_in, od_value_in, .func (PySem.W.fnOf "value_in" "value_in" (defArgs st_value_in) (defBody st_value_in) (defScope st_value_in) .none kV_value_in dc_value_in pm_value_in an_value_in cd_value_in ct_value_in), sl_value_in⟩) (c_value_in : PySem.W.codeIn K cd_value_in "value_in" = true) (k_value_in : PySem.W.keepIn K (.ref f_value_in) = true)
    (a_values_in : PySem.W.nsIn K mainGlobals "values_in" = some (some (.ref f_values_in))) (l_values_in : K.lookup f_values_in = some ⟨oc_values_in, od_values_in, .func (PySem.W.fnOf "values_in" "values_in" (defArgs st_values_in) (defBody st_values_in) (defScope st_values_in) .none kV_values_in dc_values_in pm_values_in an_values_in cd_values_in ct_values_in), sl_values_in⟩) (c_values_in : PySem.W.codeIn K cd_values_in "values_in" = true) (k_values_in : PySem.W.keepIn K (.ref f_values_in) = true)
    (a_formula_by : PySem.W.nsIn K mainGlobals "formula_by" = some (some (.ref f_formula_by))) (l_formula_by : K.lookup f_formula_by = some ⟨oc_formula_by, od_formula_by, .func (PySem.W.fnOf "formula_by" "formula_by" (defArgs st_formula_by) (defBody st_formula_by) (defScope st_formula_by) .none kV_formula_by dc_formula_by pm_formula_by an_formula_by cd_formula_by ct_formula_by), sl_formula_by⟩) (c_formula_by : PySem.W.codeIn K cd_formula_by "formula_by" = true) (k_formula_by : PySem.W.keepIn K (.ref f_formula_by) = true)
    (a_moved_in : PySem.W.nsIn K mainGlobals "moved_in" = some (some (.ref f_moved_in))) (l_moved_in : K.lookup f_moved_in = some ⟨oc_moved_in, od_moved_in, .func (PySem.W.fnOf "moved_in" "moved_in" (defArgs st_moved_in) (defBody st_moved_in) (defScope st_moved_in) .none kV_moved_in dc_moved_in pm_moved_in an_moved_in cd_moved_in ct_moved_in), sl_moved_in⟩) (c_moved_in : PySem.W.codeIn K cd_moved_in "moved_in" = true) (k_moved_in : PySem.W.keepIn K (.ref f_moved_in) = true)
    (a_values_of : PySem.W.nsIn K mainGlobals "values_of" = some (some (.ref f_values_of))) (l_values_of : K.lookup f_values_of = some ⟨oc_values_of, od_values_of, .func (PySem.W.fnOf "values_of" "values_of" (defArgs st_values_of) (defBody st_values_of) (defScope st_values_of) .none kV_values_of dc_values_of pm_values_of an_values_of cd_values_of ct_values_of), sl_values_of⟩) (c_values_of : PySem.W.codeIn K cd_values_of "values_of" = true) (k_values_of : PySem.W.keepIn K (.ref f_values_of) = true)
    (a_formula_from : PySem.W.nsIn K mainGlobals "formula_from" = some (some (.ref f_formula_from))) (l_formula_from : K.lookup f_formula_from = some ⟨oc_formula_from, od_formula_from, .func (PySem.W.fnOf "formula_from" "formula_from" (defArgs st_formula_from) (defBody st_formula_from) (defScope st_formula_from) .none kV_formula_from dc_formula_from pm_formula_from an_formula_from cd_formula_from ct_formula_from), sl_formula_from⟩) (c_formula_from : PySem.W.codeIn K cd_formula_from "formula_from" = true) (k_formula_from : PySem.W.keepIn K (.ref f_formula_from) = true)
    (a_formula_for : PySem.W.nsIn K mainGlobals "formula_for" = some (some (.ref f_formula_for))) (l_formula_for : K.lookup f_formula_for = some ⟨oc_formula_for, od_formula_for, .func (PySem.W.fnOf "formula_for" "formula_for" (defArgs st_formula_for) (defBody st_formula_for) (defScope st_formula_for) .none kV_formula_for dc_formula_for pm_formula_for an_formula_for cd_formula_for ct_formula_for), sl_formula_for⟩) (c_formula_for : PySem.W.codeIn K cd_formula_for "formula_for" = true) (k_formula_for : PySem.W.keepIn K (.ref f_formula_for) = true)
    (a_lies_on : PySem.W.nsIn K mainGlobals "lies_on" = some (some (.ref f_lies_on))) (l_lies_on : K.lookup f_lies_on = some ⟨oc_lies_on, od_lies_on, .func (PySem.W.fnOf "lies_on" "lies_on" (defArgs st_lies_on) (defBody st_lies_on) (defScope st_lies_on) .none kV_lies_on dc_lies_on pm_lies_on an_lies_on cd_lies_on ct_lies_on), sl_lies_on⟩) (c_lies_on : PySem.W.codeIn K cd_lies_on "lies_on" = true) (k_lies_on : PySem.W.keepIn K (.ref f_lies_on) = true)
    (a_l_store : PySem.W.nsIn K mainGlobals "_law_store" = some (some (.ref f_l_store))) (l_l_store : K.lookup f_l_store = some ⟨oc_l_store, od_l_store, .func (PySem.W.fnOf "_law_store" "_law_store" (defArgs st_l_store) (defBody st_l_store) (defScope st_l_store) .none kV_l_store dc_l_store pm_l_store an_l_store cd_l_store ct_l_store), sl_l_store⟩) (c_l_store : PySem.W.codeIn K cd_l_store "_law_store" = true) (k_l_store : PySem.W.keepIn K (.ref f_l_store) = true)
    (a_l_pick : PySem.W.nsIn K mainGlobals "_law_pick" = some (some (.ref f_l_pick))) (l_l_pick : K.lookup f_l_pick = some ⟨oc_l_pick, od_l_pick, .func (PySem.W.fnOf "_law_pick" "_law_pick" (defArgs st_l_pick) (defBody st_l_pick) (defScope st_l_pick) .none kV_l_pick dc_l_pick pm_l_pick an_l_pick cd_l_pick ct_l_pick), sl_l_pick⟩) (c_l_pick : PySem.W.codeIn K cd_l_pick "_law_pick" = true) (k_l_pick : PySem.W.keepIn K (.ref f_l_pick) = true)
    (a_l_common : PySem.W.nsIn K mainGlobals "_law_common" = some (some (.ref f_l_common))) (l_l_common : K.lookup f_l_common = some ⟨oc_l_common, od_l_common, .func (PySem.W.fnOf "_law_common" "_law_common" (defArgs st_l_common) (defBody st_l_common) (defScope st_l_common) .none kV_l_common dc_l_common pm_l_common an_l_common cd_l_common ct_l_common), sl_l_common⟩) (c_l_common : PySem.W.codeIn K cd_l_common "_law_common" = true) (k_l_common : PySem.W.keepIn K (.ref f_l_common) = true)
    (a_l_chosen : PySem.W.nsIn K mainGlobals "_law_chosen" = some (some (.ref f_l_chosen))) (l_l_chosen : K.lookup f_l_chosen = some ⟨oc_l_chosen, od_l_chosen, .func (PySem.W.fnOf "_law_chosen" "_law_chosen" (defArgs st_l_chosen) (defBody st_l_chosen) (defScope st_l_chosen) .none kV_l_chosen dc_l_chosen pm_l_chosen an_l_chosen cd_l_chosen ct_l_chosen), sl_l_chosen⟩) (c_l_chosen : PySem.W.codeIn K cd_l_chosen "_law_chosen" = true) (k_l_chosen : PySem.W.keepIn K (.ref f_l_chosen) = true)
    (a_l_value : PySem.W.nsIn K mainGlobals "_law_value" = some (some (.ref f_l_value))) (l_l_value : K.lookup f_l_value = some ⟨oc_l_value, od_l_value, .func (PySem.W.fnOf "_law_value" "_law_value" (defArgs st_l_value) (defBody st_l_value) (defScope st_l_value) .none kV_l_value dc_l_value pm_l_value an_l_value cd_l_value ct_l_value), sl_l_value⟩) (c_l_value : PySem.W.codeIn K cd_l_value "_law_value" = true) (k_l_value : PySem.W.keepIn K (.ref f_l_value) = true)
    (a_l_row : PySem.W.nsIn K mainGlobals "_law_row" = some (some (.ref f_l_row))) (l_l_row : K.lookup f_l_row = some ⟨oc_l_row, od_l_row, .func (PySem.W.fnOf "_law_row" "_law_row" (defArgs st_l_row) (defBody st_l_row) (defScope st_l_row) .none kV_l_row dc_l_row pm_l_row an_l_row cd_l_row ct_l_row), sl_l_row⟩) (c_l_row : PySem.W.codeIn K cd_l_row "_law_row" = true) (k_l_row : PySem.W.keepIn K (.ref f_l_row) = true)
    (a_l_bare : PySem.W.nsIn K mainGlobals "_law_bare" = some (some (.ref f_l_bare))) (l_l_bare : K.lookup f_l_bare = some ⟨oc_l_bare, od_l_bare, .func (PySem.W.fnOf "_law_bare" "_law_bare" (defArgs st_l_bare) (defBody st_l_bare) (defScope st_l_bare) .none kV_l_bare dc_l_bare pm_l_bare an_l_bare cd_l_bare ct_l_bare), sl_l_bare⟩) (c_l_bare : PySem.W.codeIn K cd_l_bare "_law_bare" = true) (k_l_bare : PySem.W.keepIn K (.ref f_l_bare) = true)
    (a_l_spot : PySem.W.nsIn K mainGlobals "_law_spot" = some (some (.ref f_l_spot))) (l_l_spot : K.lookup f_l_spot = some ⟨oc_l_spot, od_l_spot, .func (PySem.W.fnOf "_law_spot" "_law_spot" (defArgs st_l_spot) (defBody st_l_spot) (defScope st_l_spot) .none kV_l_spot dc_l_spot pm_l_spot an_l_spot cd_l_spot ct_l_spot), sl_l_spot⟩) (c_l_spot : PySem.W.codeIn K cd_l_spot "_law_spot" = true) (k_l_spot : PySem.W.keepIn K (.ref f_l_spot) = true)
    (a_l_made : PySem.W.nsIn K mainGlobals "_law_made" = some (some (.ref f_l_made))) (l_l_made : K.lookup f_l_made = some ⟨oc_l_made, od_l_made, .func (PySem.W.fnOf "_law_made" "_law_made" (defArgs st_l_made) (defBody st_l_made) (defScope st_l_made) .none kV_l_made dc_l_made pm_l_made an_l_made cd_l_made ct_l_made), sl_l_made⟩) (c_l_made : PySem.W.codeIn K cd_l_made "_law_made" = true) (k_l_made : PySem.W.keepIn K (.ref f_l_made) = true)
    (a_l_modest : PySem.W.nsIn K mainGlobals "_law_modest" = some (some (.ref f_l_modest))) (l_l_modest : K.lookup f_l_modest = some ⟨oc_l_modest, od_l_modest, .func (PySem.W.fnOf "_law_modest" "_law_modest" (defArgs st_l_modest) (defBody st_l_modest) (defScope st_l_modest) .none kV_l_modest dc_l_modest pm_l_modest an_l_modest cd_l_modest ct_l_modest), sl_l_modest⟩) (c_l_modest : PySem.W.codeIn K cd_l_modest "_law_modest" = true) (k_l_modest : PySem.W.keepIn K (.ref f_l_modest) = true)
    (a_l_from_right : PySem.W.nsIn K mainGlobals "_law_from_right" = some (some (.ref f_l_from_right))) (l_l_from_right : K.lookup f_l_from_right = some ⟨oc_l_from_right, od_l_from_right, .func (PySem.W.fnOf "_law_from_right" "_law_from_right" (defArgs st_l_from_right) (defBody st_l_from_right) (defScope st_l_from_right) .none kV_l_from_right dc_l_from_right pm_l_from_right an_l_from_right cd_l_from_right ct_l_from_right), sl_l_from_right⟩) (c_l_from_right : PySem.W.codeIn K cd_l_from_right "_law_from_right" = true) (k_l_from_right : PySem.W.keepIn K (.ref f_l_from_right) = true)
    (a_l_book : PySem.W.nsIn K mainGlobals "_law_book" = some (some (.ref f_l_book))) (l_l_book : K.lookup f_l_book = some ⟨oc_l_book, od_l_book, .func (PySem.W.fnOf "_law_book" "_law_book" (defArgs st_l_book) (defBody st_l_book) (defScope st_l_book) .none kV_l_book dc_l_book pm_l_book an_l_book cd_l_book ct_l_book), sl_l_book⟩) (c_l_book : PySem.W.codeIn K cd_l_book "_law_book" = true) (k_l_book : PySem.W.keepIn K (.ref f_l_book) = true)
    (a_l_for_right : PySem.W.nsIn K mainGlobals "_law_for_right" = some (some (.ref f_l_for_right))) (l_l_for_right : K.lookup f_l_for_right = some ⟨oc_l_for_right, od_l_for_right, .func (PySem.W.fnOf "_law_for_right" "_law_for_right" (defArgs st_l_for_right) (defBody st_l_for_right) (defScope st_l_for_right) .none kV_l_for_right dc_l_for_right pm_l_for_right an_l_for_right cd_l_for_right ct_l_for_right), sl_l_for_right⟩) (c_l_for_right : PySem.W.codeIn K cd_l_for_right "_law_for_right" = true) (k_l_for_right : PySem.W.keepIn K (.ref f_l_for_right) = true)
    (a_law : PySem.W.nsIn K mainGlobals "law" = some (some (.ref f_law))) (l_law : K.lookup f_law = some ⟨oc_law, od_law, .func (PySem.W.fnOf "law" "law" (defArgs st_law) (defBody st_law) (defScope st_law) .none kV_law dc_law pm_law an_law cd_law ct_law), sl_law⟩) (c_law : PySem.W.codeIn K cd_law "law" = true) (k_law : PySem.W.keepIn K (.ref f_law) = true)
    (z_int : PySem.W.nsIn K mainGlobals "int" = some none)
    (z_len : PySem.W.nsIn K mainGlobals "len" = some none)
    (z_max : PySem.W.nsIn K mainGlobals "max" = some none)
    (z_min : PySem.W.nsIn K mainGlobals "min" = some none)
    (z_range : PySem.W.nsIn K mainGlobals "range" = some none)
    (z_abs : PySem.W.nsIn K mainGlobals "abs" = some none)
    (z_list : PySem.W.nsIn K mainGlobals "list" = some none)
    (z_repr : PySem.W.nsIn K mainGlobals "repr" = some none)
    (z_isinstance : PySem.W.nsIn K mainGlobals "isinstance" = some none)
    (z_all : PySem.W.nsIn K mainGlobals "all" = some none)
    (z_bool : PySem.W.nsIn K mainGlobals "bool" = some none)
    (z_enumerate : PySem.W.nsIn K mainGlobals "enumerate" = some none)
    (z_zip : PySem.W.nsIn K mainGlobals "zip" = some none)
    (z_sum : PySem.W.nsIn K mainGlobals "sum" = some none)
    (z_sorted : PySem.W.nsIn K mainGlobals "sorted" = some none)
    (z_dict : PySem.W.nsIn K mainGlobals "dict" = some none)
    (z_tuple : PySem.W.nsIn K mainGlobals "tuple" = some none)
    {t_MOST_VALUES_formulas : Tok} (n_MOST_VALUES_formulas : PySem.W.nsIn K mainGlobals "MOST_VALUES_formulas" = some (some (.int (60) t_MOST_VALUES_formulas)))
    {t_MOST_ITEMS_formulas : Tok} (n_MOST_ITEMS_formulas : PySem.W.nsIn K mainGlobals "MOST_ITEMS_formulas" = some (some (.int (41) t_MOST_ITEMS_formulas)))
    {t_MOST_WIDE : Tok} (n_MOST_WIDE : PySem.W.nsIn K mainGlobals "MOST_WIDE" = some (some (.int (40) t_MOST_WIDE)))
    {t_MOST_ITEMS_books : Tok} (n_MOST_ITEMS_books : PySem.W.nsIn K mainGlobals "MOST_ITEMS_books" = some (some (.int (24) t_MOST_ITEMS_books)))
    {t_MOST : Tok} (n_MOST : PySem.W.nsIn K mainGlobals "MOST" = some (some (.int (1000000000000000000000000000000) t_MOST)))
    : ∃ fd : FuncData, (∀ (s : Shared) (v : Value), BindsTo s fd ⟨[v], []⟩ [("_law_script", v)]) ∧ ∀ base : Heap, K.In base → base.Ns mainGlobals mg → base.NoDigits → FnG l.prog w K mg base (L2.CX l.prog w) 9 fa fd ["_law_script"] (spG K TLaw) := by
  have e := hfa.symm.trans (PySem.W.mg_of X G a_law)
  cases e
  have F_is_integer := fun_mk (st := st_is_integer) l_is_integer c_is_integer k_is_integer
  have m_is_integer := PySem.W.mg_of X G a_is_integer
  have b_is_integer := F_is_integer.binds (ps := ["thing"]) fun _ _ _ _ _ _ us hl => match us, hl with | [_], _ => rfl
  have F_is_told := fun_mk (st := st_is_told) l_is_told c_is_told k_is_told
  have m_is_told := PySem.W.mg_of X G a_is_told
  have b_is_told := F_is_told.binds (ps := ["thing"]) fun _ _ _ _ _ _ us hl => match us, hl with | [_], _ => rfl
  have F_is_item := fun_mk (st := st_is_item) l_is_item c_is_item k_is_item
  have m_is_item := PySem.W.mg_of X G a_is_item
  have b_is_item := F_is_item.binds (ps := ["thing"]) fun _ _ _ _ _ _ us hl => match us, hl with | [_], _ => rfl
  have F_is_book := fun_mk (st := st_is_book) l_is_book c_is_book k_is_book
  have m_is_book := PySem.W.mg_of X G a_is_book
  have b_is_book := F_is_book.binds (ps := ["thing"]) fun _ _ _ _ _ _ us hl => match us, hl with | [_], _ => rfl
  have F_need_book := fun_mk (st := st_need_book) l_need_book c_need_book k_need_book
  have m_need_book := PySem.W.mg_of X G a_need_book
  have b_need_book := F_need_book.binds (ps := ["book"]) fun _ _ _ _ _ _ us hl => match us, hl with | [_], _ => rfl
  have F_divisor_of := fun_mk (st := st_divisor_of) l_divisor_of c_divisor_of k_divisor_of
  have m_divisor_of := PySem.W.mg_of X G a_divisor_of
  have b_divisor_of := F_divisor_of.binds (ps := ["one", "other"]) fun _ _ _ _ _ _ us hl => match us, hl with | [_, _], _ => rfl
  have F_multiple_of := fun_mk (st := st_multiple_of) l_multiple_of c_multiple_of k_multiple_of
  have m_multiple_of := PySem.W.mg_of X G a_multiple_of
  have b_multiple_of := F_multiple_of.binds (ps := ["numbers"]) fun _ _ _ _ _ _ us hl => match us, hl with | [_], _ => rfl
  have F_divides := fun_mk (st := st_divides) l_divides c_divides k_divides
  have m_divides := PySem.W.mg_of X G a_divides
  have b_divides := F_divides.binds (ps := ["number", "other"]) fun _ _ _ _ _ _ us hl => match us, hl with | [_, _], _ => rfl
  have F_do_fit := fun_mk (st := st_do_fit) l_do_fit c_do_fit k_do_fit
  have m_do_fit := PySem.W.mg_of X G a_do_fit
  have b_do_fit := F_do_fit.binds (ps := ["one", "other"]) fun _ _ _ _ _ _ us hl => match us, hl with | [_, _], _ => rfl
  have F_conflicts_in := fun_mk (st := st_conflicts_in) l_conflicts_in c_conflicts_in k_conflicts_in
  have m_conflicts_in := PySem.W.mg_of X G a_conflicts_in
  have b_conflicts_in := F_conflicts_in.binds (ps := ["book"]) fun _ _ _ _ _ _ us hl => match us, hl with | [_], _ => rfl
  have F_conflict_in := fun_mk (st := st_conflict_in) l_conflict_in c_conflict_in k_conflict_in
  have m_conflict_in := PySem.W.mg_of X G a_conflict_in
  have b_conflict_in := F_conflict_in.binds (ps := ["book"]) fun _ _ _ _ _ _ us hl => match us, hl with | [_], _ => rfl
  have F_need_fitting := fun_mk (st := st_need_fitting) l_need_fitting c_need_fitting k_need_fitting
  have m_need_fitting := PySem.W.mg_of X G a_need_fitting
  have b_need_fitting := F_need_fitting.binds (ps := ["book"]) fun _ _ _ _ _ _ us hl => match us, hl with | [_], _ => rfl
  have F_need_possible := fun_mk (st := st_need_possible) l_need_possible c_need_possible k_need_possible
  have m_need_possible := PySem.W.mg_of X G a_need_possible
  have b_need_possible := F_need_possible.binds (ps := ["book"]) fun _ _ _ _ _ _ us hl => match us, hl with | [_], _ => rfl
  have F_inverse_of := fun_mk (st := st_inverse_of) l_inverse_of c_inverse_of k_inverse_of
  have m_inverse_of := PySem.W.mg_of X G a_inverse_of
  have b_inverse_of := F_inverse_of.binds (ps := ["number", "modulus"]) fun _ _ _ _ _ _ us hl => match us, hl with | [_, _], _ => rfl
  have F_met := fun_mk (st := st_met) l_met c_met k_met
  have m_met := PySem.W.mg_of X G a_met
  have b_met := F_met.binds (ps := ["one", "other"]) fun _ _ _ _ _ _ us hl => match us, hl with | [_, _], _ => rfl
  have F_class_by := fun_mk (st := st_class_by) l_class_by c_class_by k_class_by
  have m_class_by := PySem.W.mg_of X G a_class_by
  have b_class_by := F_class_by.binds (ps := ["items", "place"]) fun _ _ _ _ _ _ us hl => match us, hl with | [_, _], _ => rfl
  have F_first_from := fun_mk (st := st_first_from) l_first_from c_first_from k_first_from
  have m_first_from := PySem.W.mg_of X G a_first_from
  have b_first_from := F_first_from.binds (ps := ["own_class", "value"]) fun _ _ _ _ _ _ us hl => match us, hl with | [_, _], _ => rfl
  have F_is_stretch := funQ_int (st := st_is_stretch) l_is_stretch lt_is_stretch ot_is_stretch c_is_stretch k_is_stretch
  have m_is_stretch := PySem.W.mg_of X G a_is_stretch
  have b_is_stretch := F_is_stretch.binds1 (ps := ["thing", "most"]) 2 1 (by simp) rfl fun _ _ _ _ _ _ _ us its hu hi => match us, its, hu, hi with | [_, _], [_], _, _ => ⟨_, rfl, rfl⟩
  have bd_is_stretch := F_is_stretch.binds1 (ps := ["thing", "most"]) 1 0 (by simp) rfl fun _ _ _ _ _ _ _ us its hu hi => match us, its, hu, hi with | [_], [_], _, _ => ⟨_, rfl, rfl⟩
  have F_need_stretch := funQ_int (st := st_need_stretch) l_need_stretch lt_need_stretch ot_need_stretch c_need_stretch k_need_stretch
  have m_need_stretch := PySem.W.mg_of X G a_need_stretch
  have b_need_stretch := F_need_stretch.binds1 (ps := ["stretch", "most"]) 2 1 (by simp) rfl fun _ _ _ _ _ _ _ us its hu hi => match us, its, hu, hi with | [_, _], [_], _, _ => ⟨_, rfl, rfl⟩
  have bd_need_stretch := F_need_stretch.binds1 (ps := ["stretch", "most"]) 1 0 (by simp) rfl fun _ _ _ _ _ _ _ us its hu hi => match us, its, hu, hi with | [_], [_], _, _ => ⟨_, rfl, rfl⟩
  have F_items_in := fun_mk (st := st_items_in) l_items_in c_items_in k_items_in
  have m_items_in := PySem.W.mg_of X G a_items_in
  have b_items_in := F_items_in.binds (ps := ["stretch"]) fun _ _ _ _ _ _ us hl => match us, hl with | [_], _ => rfl
  have F_need_right := fun_mk (st := st_need_right) l_need_right c_need_right k_need_right
  have m_need_right := PySem.W.mg_of X G a_need_right
  have b_need_right := F_need_right.binds (ps := ["stretch"]) fun _ _ _ _ _ _ us hl => match us, hl with | [_], _ => rfl
  have F_differences_in := fun_mk (st := st_differences_in) l_differences_in c_differences_in k_differences_in
  have m_differences_in := PySem.W.mg_of X G a_differences_in
  have b_differences_in := F_differences_in.binds (ps := ["stretch"]) fun _ _ _ _ _ _ us hl => match us, hl with | [_], _ => rfl
  have F_is_formula := fun_mk (st := st_is_formula) l_is_formula c_is_formula k_is_formula
  have m_is_formula := PySem.W.mg_of X G a_is_formula
  have b_is_formula := F_is_formula.binds (ps := ["thing"]) fun _ _ _ _ _ _ us hl => match us, hl with | [_], _ => rfl
  have F_need_formula := fun_mk (st := st_need_formula) l_need_formula c_need_formula k_need_formula
  have m_need_formula := PySem.W.mg_of X G a_need_formula
  have b_need_formula := F_need_formula.binds (ps := ["formula"]) fun _ _ _ _ _ _ us hl => match us, hl with | [_], _ => rfl
  have F_multiple_to := fun_mk (st := st_multiple_to) l_multiple_to c_multiple_to k_multiple_to
  have m_multiple_to := PySem.W.mg_of X G a_multiple_to
  have b_multiple_to := F_multiple_to.binds (ps := ["number"]) fun _ _ _ _ _ _ us hl => match us, hl with | [_], _ => rfl
  have F_plain_of := fun_mk (st := st_plain_of) l_plain_of c_plain_of k_plain_of
  have m_plain_of := PySem.W.mg_of X G a_plain_of
  have b_plain_of := F_plain_of.binds (ps := ["formula"]) fun _ _ _ _ _ _ us hl => match us, hl with | [_], _ => rfl
  have F_value_in := fun_mk (st := st_value_in) l_value_in c_value_in k_value_in
  have m_value_in := PySem.W.mg_of X G a_value_in
  have b_value_in := F_value_in.binds (ps := ["formula", "place"]) fun _ _ _ _ _ _ us hl => match us, hl with | [_, _], _ => rfl
  have F_values_in := fun_mk (st := st_values_in) l_values_in c_values_in k_values_in
  have m_values_in := PySem.W.mg_of X G a_values_in
  have b_values_in := F_values_in.binds (ps := ["formula", "place", "many"]) fun _ _ _ _ _ _ us hl => match us, hl with | [_, _, _], _ => rfl
  have F_formula_by := fun_mk (st := st_formula_by) l_formula_by c_formula_by k_formula_by
  have m_formula_by := PySem.W.mg_of X G a_formula_by
  have b_formula_by := F_formula_by.binds (ps := ["values"]) fun _ _ _ _ _ _ us hl => match us, hl with | [_], _ => rfl
  have F_moved_in := fun_mk (st := st_moved_in) l_moved_in c_moved_in k_moved_in
  have m_moved_in := PySem.W.mg_of X G a_moved_in
  have b_moved_in := F_moved_in.binds (ps := ["formula", "steps"]) fun _ _ _ _ _ _ us hl => match us, hl with | [_, _], _ => rfl
  have F_values_of := fun_mk (st := st_values_of) l_values_of c_values_of k_values_of
  have m_values_of := PySem.W.mg_of X G a_values_of
  have b_values_of := F_values_of.binds (ps := ["formula", "place", "many"]) fun _ _ _ _ _ _ us hl => match us, hl with | [_, _, _], _ => rfl
  have F_formula_from := fun_mk (st := st_formula_from) l_formula_from c_formula_from k_formula_from
  have m_formula_from := PySem.W.mg_of X G a_formula_from
  have b_formula_from := F_formula_from.binds (ps := ["stretch"]) fun _ _ _ _ _ _ us hl => match us, hl with | [_], _ => rfl
  have F_formula_for := fun_mk (st := st_formula_for) l_formula_for c_formula_for k_formula_for
  have m_formula_for := PySem.W.mg_of X G a_formula_for
  have b_formula_for := F_formula_for.binds (ps := ["book"]) fun _ _ _ _ _ _ us hl => match us, hl with | [_], _ => rfl
  have F_lies_on := fun_mk (st := st_lies_on) l_lies_on c_lies_on k_lies_on
  have m_lies_on := PySem.W.mg_of X G a_lies_on
  have b_lies_on := F_lies_on.binds (ps := ["book", "formula"]) fun _ _ _ _ _ _ us hl => match us, hl with | [_, _], _ => rfl
  have F_l_store := fun_mk (st := st_l_store) l_l_store c_l_store k_l_store
  have m_l_store := PySem.W.mg_of X G a_l_store
  have b_l_store := F_l_store.binds (ps := ["_law_script", "_law_k"]) fun _ _ _ _ _ _ us hl => match us, hl with | [_, _], _ => rfl
  have F_l_pick := fun_mk (st := st_l_pick) l_l_pick c_l_pick k_l_pick
  have m_l_pick := PySem.W.mg_of X G a_l_pick
  have b_l_pick := F_l_pick.binds (ps := ["_law_store_here", "_law_bound"]) fun _ _ _ _ _ _ us hl => match us, hl with | [_, _], _ => rfl
  have F_l_common := fun_mk (st := st_l_common) l_l_common c_l_common k_l_common
  have m_l_common := PySem.W.mg_of X G a_l_common
  have b_l_common := F_l_common.binds (ps := ["_law_upto"]) fun _ _ _ _ _ _ us hl => match us, hl with | [_], _ => rfl
  have F_l_chosen := fun_mk (st := st_l_chosen) l_l_chosen c_l_chosen k_l_chosen
  have m_l_chosen := PySem.W.mg_of X G a_l_chosen
  have b_l_chosen := F_l_chosen.binds (ps := ["_law_spot_here", "_law_upto"]) fun _ _ _ _ _ _ us hl => match us, hl with | [_, _], _ => rfl
  have F_l_value := fun_mk (st := st_l_value) l_l_value c_l_value k_l_value
  have m_l_value := PySem.W.mg_of X G a_l_value
  have b_l_value := F_l_value.binds (ps := ["_law_row_here", "_law_spot_here"]) fun _ _ _ _ _ _ us hl => match us, hl with | [_, _], _ => rfl
  have F_l_row := fun_mk (st := st_l_row) l_l_row c_l_row k_l_row
  have m_l_row := PySem.W.mg_of X G a_l_row
  have b_l_row := F_l_row.binds (ps := ["_law_store_here", "_law_most"]) fun _ _ _ _ _ _ us hl => match us, hl with | [_, _], _ => rfl
  have F_l_bare := fun_mk (st := st_l_bare) l_l_bare c_l_bare k_l_bare
  have m_l_bare := PySem.W.mg_of X G a_l_bare
  have b_l_bare := F_l_bare.binds (ps := ["_law_row_here"]) fun _ _ _ _ _ _ us hl => match us, hl with | [_], _ => rfl
  have F_l_spot := fun_mk (st := st_l_spot) l_l_spot c_l_spot k_l_spot
  have m_l_spot := PySem.W.mg_of X G a_l_spot
  have b_l_spot := F_l_spot.binds (ps := ["_law_store_here"]) fun _ _ _ _ _ _ us hl => match us, hl with | [_], _ => rfl
  have F_l_made := fun_mk (st := st_l_made) l_l_made c_l_made k_l_made
  have m_l_made := PySem.W.mg_of X G a_l_made
  have b_l_made := F_l_made.binds (ps := ["_law_values_here"]) fun _ _ _ _ _ _ us hl => match us, hl with | [_], _ => rfl
  have F_l_modest := fun_mk (st := st_l_modest) l_l_modest c_l_modest k_l_modest
  have m_l_modest := PySem.W.mg_of X G a_l_modest
  have b_l_modest := F_l_modest.binds (ps := ["_law_store_here", "_law_most"]) fun _ _ _ _ _ _ us hl => match us, hl with | [_, _], _ => rfl
  have F_l_from_right := fun_mk (st := st_l_from_right) l_l_from_right c_l_from_right k_l_from_right
  have m_l_from_right := PySem.W.mg_of X G a_l_from_right
  have b_l_from_right := F_l_from_right.binds (ps := ["_law_store_here", "_law_many"]) fun _ _ _ _ _ _ us hl => match us, hl with | [_, _], _ => rfl
  have F_l_book := fun_mk (st := st_l_book) l_l_book c_l_book k_l_book
  have m_l_book := PySem.W.mg_of X G a_l_book
  have b_l_book := F_l_book.binds (ps := ["_law_store_here", "_law_most"]) fun _ _ _ _ _ _ us hl => match us, hl with | [_, _], _ => rfl
  have F_l_for_right := fun_mk (st := st_l_for_right) l_l_for_right c_l_for_right k_l_for_right
  have m_l_for_right := PySem.W.mg_of X G a_l_for_right
  have b_l_for_right := F_l_for_right.binds (ps := ["_law_store_here"]) fun _ _ _ _ _ _ us hl => match us, hl with | [_], _ => rfl
  have F_law := fun_mk (st := st_law) l_law c_law k_law
  have m_law := PySem.W.mg_of X G a_law
  have b_law := F_law.binds (ps := ["_law_script"]) fun _ _ _ _ _ _ us hl => match us, hl with | [_], _ => rfl
  have bI : BasI K mg "RestError" fB (.type "type") := ⟨PySem.W.mg_of X G aB, sB, rB, vB⟩
  have c_Unfit : ExcI K mg "Unfit" C_Unfit fI_Unfit ["first", "second"] := ⟨PySem.W.mg_of X G aC_Unfit, ⟨⟨_, _, _, _, _, _, _, _, _, _, _, _, _, _, _, xL_Unfit, refs_one fB⟩, sa_Unfit, eC_Unfit, tC_Unfit, kC_Unfit⟩, ⟨ga_Unfit, gg_Unfit, eC_Unfit, hC_Unfit⟩, iC_Unfit, tI_Unfit, (by intro f hf; simp only [List.mem_cons, List.not_mem_nil, or_false] at hf; rcases hf with rfl | rfl; exact nf0_Unfit; exact nf1_Unfit), exm_self eC_Unfit isC_Unfit tC_Unfit sC_Unfit⟩
  have FI_Unfit := fun_mk (st := st_Unfit___init__) lI_Unfit cI_Unfit kI_Unfit
  have bI_Unfit := FI_Unfit.binds (ps := ["self", "first", "second"]) fun _ _ _ _ _ _ us hl => match us, hl with | [_, _, _], _ => rfl
  have y_int := PySem.W.mg_none_of X G z_int
  have y_len := PySem.W.mg_none_of X G z_len
  have y_max := PySem.W.mg_none_of X G z_max
  have y_min := PySem.W.mg_none_of X G z_min
  have y_range := PySem.W.mg_none_of X G z_range
  have y_abs := PySem.W.mg_none_of X G z_abs
  have y_list := PySem.W.mg_none_of X G z_list
  have y_repr := PySem.W.mg_none_of X G z_repr
  have y_isinstance := PySem.W.mg_none_of X G z_isinstance
  have y_all := PySem.W.mg_none_of X G z_all
  have y_bool := PySem.W.mg_none_of X G z_bool
  have y_enumerate := PySem.W.mg_none_of X G z_enumerate
  have y_zip := PySem.W.mg_none_of X G z_zip
  have y_sum := PySem.W.mg_none_of X G z_sum
  have y_sorted := PySem.W.mg_none_of X G z_sorted
  have y_dict := PySem.W.mg_none_of X G z_dict
  have y_tuple := PySem.W.mg_none_of X G z_tuple
  have v_MOST_VALUES_formulas : ∃ t, mg "MOST_VALUES_formulas" = some (.int (60) t) := ⟨_, PySem.W.mg_of X G n_MOST_VALUES_formulas⟩
  have v_MOST_ITEMS_formulas : ∃ t, mg "MOST_ITEMS_formulas" = some (.int (41) t) := ⟨_, PySem.W.mg_of X G n_MOST_ITEMS_formulas⟩
  have v_MOST_WIDE : ∃ t, mg "MOST_WIDE" = some (.int (40) t) := ⟨_, PySem.W.mg_of X G n_MOST_WIDE⟩
  have v_MOST_ITEMS_books : ∃ t, mg "MOST_ITEMS_books" = some (.int (24) t) := ⟨_, PySem.W.mg_of X G n_MOST_ITEMS_books⟩
  have v_MOST : ∃ t, mg "MOST" = some (.int (1000000000000000000000000000000) t) := ⟨_, PySem.W.mg_of X G n_MOST⟩
  refine ⟨PySem.W.fnOf "law" "law" (defArgs st_law) (defBody st_law) (defScope st_law) .none kV_law dc_law pm_law an_law cd_law ct_law, fun s v => .of_eq rfl, fun base _ _ hnd => ?_⟩
  have g_store := fn_store (base := base) (w := w) (P := l.prog) (mg := mg) y_abs y_int y_len y_max F_l_store
  have e1_l_store := fd_ok (n := 2) F_l_store m_l_store rfl b_l_store TStore_mono g_store
  have g_pick := fn_pick (base := base) (w := w) (P := l.prog) (mg := mg) y_int F_l_pick
  have e3_l_pick := fd_ok (n := 2) F_l_pick m_l_pick rfl b_l_pick TPick_mono g_pick
  have g_is_integer := fn_is_integer (base := base) (w := w) (P := l.prog) (mg := mg) y_isinstance y_int y_bool F_is_integer
  have e5_is_integer := fd_ok (n := 1) F_is_integer m_is_integer rfl b_is_integer TInt1_mono g_is_integer
  have g_is_formula := fn_is_formula (base := base) (w := w) (P := l.prog) (mg := mg) y_isinstance y_len y_list y_all v_MOST_ITEMS_formulas e5_is_integer F_is_formula
  have e7_is_formula := fd_ok (n := 1) F_is_formula m_is_formula rfl b_is_formula (TForm_mono _) g_is_formula
  have g_need_formula := fn_need_formula (base := base) (w := w) (P := l.prog) (mg := mg) e7_is_formula F_need_formula
  have e9_need_formula := fd_ok (n := 1) F_need_formula m_need_formula rfl b_need_formula (TForm_mono _) g_need_formula
  have g_divisor_of := fn_divisor_of (base := base) (w := w) (P := l.prog) (mg := mg) F_divisor_of
  have e11_divisor_of := fd_ok (n := 2) F_divisor_of m_divisor_of rfl b_divisor_of TGcd0_mono g_divisor_of
  have g_multiple_of := fn_multiple_of (base := base) (w := w) (P := l.prog) (mg := mg) y_abs e11_divisor_of F_multiple_of
  have e13_multiple_of := fd_ok (n := 1) F_multiple_of m_multiple_of rfl b_multiple_of TMult_mono g_multiple_of
  have g_value_in := fn_value_in (base := base) (w := w) (P := l.prog) (mg := mg) y_enumerate e13_multiple_of F_value_in
  have e15_value_in := fd_ok (n := 2) F_value_in m_value_in rfl b_value_in TVal_mono g_value_in
  have g_values_in := fn_values_in (base := base) (w := w) (P := l.prog) (mg := mg) y_range e15_value_in F_values_in
  have e17_values_in := fd_ok (n := 3) F_values_in m_values_in rfl b_values_in TVals_mono g_values_in
  have g_values_of := fn_values_of (base := base) (w := w) (P := l.prog) (mg := mg) v_MOST_VALUES_formulas e9_need_formula e17_values_in F_values_of
  have e19_values_of := fd_ok (n := 3) F_values_of m_values_of rfl b_values_of TValsOf_mono ( g_values_of)
  have g_is_stretch := fn_is_stretch (base := base) (w := w) (P := l.prog) (mg := mg) y_isinstance y_len y_list y_all e5_is_integer F_is_stretch
  have e21_is_stretch := fd_okQ (n := 2) F_is_stretch m_is_stretch rfl b_is_stretch TIsStr_mono g_is_stretch
  have g_need_stretch := fn_need_stretch (base := base) (w := w) (P := l.prog) (mg := mg) e21_is_stretch F_need_stretch
  have e23_need_stretch := fdd_ok (n := 2) F_need_stretch m_need_stretch rfl bd_need_stretch (fun _ => .cons (.int _) .nil) TNeedStr_mono ( g_need_stretch)
  have g_unfit_init := fn_unfit_init (base := base) (w := w) (P := l.prog) (mg := mg) c_Unfit bI FI_Unfit
  have g_divides := fn_divides (base := base) (w := w) (P := l.prog) (mg := mg) F_divides
  have e26_divides := fd_ok (n := 2) F_divides m_divides rfl b_divides TDivs_mono g_divides
  have g_do_fit := fn_do_fit (base := base) (w := w) (P := l.prog) (mg := mg) e26_divides F_do_fit
  have e28_do_fit := fd_ok (n := 2) F_do_fit m_do_fit rfl b_do_fit TFit_mono g_do_fit
  have g_conflicts_inG := fn_conflicts_inG (base := base) (w := w) (P := l.prog) (mg := mg) y_enumerate y_range y_len e28_do_fit F_conflicts_in
  have e30_conflicts_in := fd_ok (n := 1) F_conflicts_in m_conflicts_in rfl b_conflicts_in TConfs_mono g_conflicts_inG
  have g_conflict_inG := fn_conflict_inG (base := base) (w := w) (P := l.prog) (mg := mg) e30_conflicts_in F_conflict_in
  have e32_conflict_in := fd_ok (n := 1) F_conflict_in m_conflict_in rfl b_conflict_in TConfl_mono g_conflict_inG
  have g_items_in := fn_items_in (base := base) (w := w) (P := l.prog) (mg := mg) y_enumerate y_list F_items_in
  have e34_items_in := fd_ok (n := 1) F_items_in m_items_in rfl b_items_in TItems_mono g_items_in
  have g_need_right := fn_need_right (base := base) (w := w) (P := l.prog) (mg := mg) c_Unfit g_unfit_init bI_Unfit e32_conflict_in e34_items_in F_need_right
  have e36_need_right := fd_ok (n := 1) F_need_right m_need_right rfl b_need_right (TRight_mono _) g_need_right
  have g_plain_ofC := fn_plain_ofC (base := base) (w := w) (P := l.prog) (mg := mg) y_len F_plain_of
  have e38_plain_of := fd_ok (n := 1) F_plain_of m_plain_of rfl b_plain_of TPlainC_mono g_plain_ofC
  have g_multiple_to := fn_multiple_to (base := base) (w := w) (P := l.prog) (mg := mg) y_list y_range e13_multiple_of F_multiple_to
  have e40_multiple_to := fd_ok (n := 1) F_multiple_to m_multiple_to rfl b_multiple_to TLc_mono g_multiple_to
  have g_differences_inA := fn_differences_inA (base := base) (w := w) (P := l.prog) (mg := mg) y_list y_zip F_differences_in
  have e42_differences_in := fd_ok (n := 1) F_differences_in m_differences_in rfl b_differences_in TDiffs_mono g_differences_inA
  have g_formula_byC := fn_formula_byC (base := base) (w := w) (P := l.prog) (mg := mg) y_enumerate e38_plain_of e40_multiple_to e42_differences_in F_formula_by
  have e44_formula_by := fd_ok (n := 1) F_formula_by m_formula_by rfl b_formula_by TByC_mono g_formula_byC
  have g_formula_from := fn_formula_from (base := base) (w := w) (P := l.prog) (mg := mg) e23_need_stretch e36_need_right e44_formula_by F_formula_from
  have e46_formula_from := fd_ok (n := 1) F_formula_from m_formula_from rfl b_formula_from TFromC_mono g_formula_from
  have g_bare := fn_bare (base := base) (w := w) (P := l.prog) (mg := mg) y_len y_list F_l_bare
  have e48_l_bare := fd_ok (n := 1) F_l_bare m_l_bare rfl b_l_bare TBare_mono g_bare
  have g_row := fn_row (base := base) (w := w) (P := l.prog) (mg := mg) y_int y_range e3_l_pick F_l_row
  have e50_l_row := fd_ok (n := 2) F_l_row m_l_row rfl b_l_row TRow_mono g_row
  have g_common := fn_common (base := base) (w := w) (P := l.prog) (mg := mg) y_int y_range F_l_common
  have e52_l_common := fd_ok (n := 1) F_l_common m_l_common rfl b_l_common TLcL_mono g_common
  have g_made := fn_made (base := base) (w := w) (P := l.prog) (mg := mg) y_len y_list y_zip e48_l_bare e52_l_common F_l_made
  have e54_l_made := fd_ok (n := 1) F_l_made m_l_made rfl b_l_made TMade_mono g_made
  have g_chosen := fn_chosen (base := base) (w := w) (P := l.prog) (mg := mg) y_range F_l_chosen
  have e56_l_chosen := fd_ok (n := 2) F_l_chosen m_l_chosen rfl b_l_chosen TBin_mono g_chosen
  have g_value := fn_value (base := base) (w := w) (P := l.prog) (mg := mg) y_enumerate y_sum e52_l_common e56_l_chosen F_l_value
  have e58_l_value := fd_ok (n := 2) F_l_value m_l_value rfl b_l_value TValL_mono g_value
  have g_from_right := fn_from_right (base := base) (w := w) (P := l.prog) (mg := mg) hnd y_len y_list y_range y_repr e19_values_of e46_formula_from e48_l_bare e50_l_row e54_l_made e58_l_value F_l_from_right
  have e60_l_from_right := fd_okG (n := 2) F_l_from_right m_l_from_right rfl b_l_from_right TFromR_mono g_from_right
  have g_modest := fn_modest (base := base) (w := w) (P := l.prog) (mg := mg) y_range e3_l_pick F_l_modest
  have e62_l_modest := fd_ok (n := 2) F_l_modest m_l_modest rfl b_l_modest TModest_mono g_modest
  have g_spot := fn_spot (base := base) (w := w) (P := l.prog) (mg := mg) e3_l_pick F_l_spot
  have e64_l_spot := fd_ok (n := 1) F_l_spot m_l_spot rfl b_l_spot TSpot_mono g_spot
  have g_lbook := fn_lbook (base := base) (w := w) (P := l.prog) (mg := mg) y_range y_sorted e62_l_modest e3_l_pick e64_l_spot e58_l_value F_l_book
  have e66_l_book := fd_ok (n := 2) F_l_book m_l_book rfl b_l_book TBook_mono g_lbook
  have g_is_told := fn_is_told (base := base) (w := w) (P := l.prog) (mg := mg) v_MOST e5_is_integer F_is_told
  have e68_is_told := fd_ok (n := 1) F_is_told m_is_told rfl b_is_told TTold_mono g_is_told
  have g_is_item := fn_is_item (base := base) (w := w) (P := l.prog) (mg := mg) y_isinstance y_len y_tuple e68_is_told F_is_item
  have e70_is_item := fd_ok (n := 1) F_is_item m_is_item rfl b_is_item TIsItem_mono g_is_item
  have g_is_book := fn_is_book (base := base) (w := w) (P := l.prog) (mg := mg) y_isinstance y_len y_list y_all y_zip v_MOST_ITEMS_books e70_is_item F_is_book
  have e72_is_book := fd_ok (n := 1) F_is_book m_is_book rfl b_is_book TIsBook_mono g_is_book
  have g_need_book := fn_need_book (base := base) (w := w) (P := l.prog) (mg := mg) e72_is_book F_need_book
  have e74_need_book := fd_ok (n := 1) F_need_book m_need_book rfl b_need_book TNeedBook_mono g_need_book
  have g_conflicts_in := fn_conflicts_in (base := base) (w := w) (P := l.prog) (mg := mg) y_enumerate y_range y_len e28_do_fit F_conflicts_in
  have e76_conflicts_in := fd_ok (n := 1) F_conflicts_in m_conflicts_in rfl b_conflicts_in TConf0_mono g_conflicts_in
  have g_conflict_in := fn_conflict_in (base := base) (w := w) (P := l.prog) (mg := mg) e76_conflicts_in F_conflict_in
  have e78_conflict_in := fd_ok (n := 1) F_conflict_in m_conflict_in rfl b_conflict_in TPoss_mono g_conflict_in
  have g_need_fitting := fn_need_fitting (base := base) (w := w) (P := l.prog) (mg := mg) e78_conflict_in F_need_fitting
  have e80_need_fitting := fd_ok (n := 1) F_need_fitting m_need_fitting rfl b_need_fitting TPoss_mono g_need_fitting
  have g_need_possible := fn_need_possible (base := base) (w := w) (P := l.prog) (mg := mg) e74_need_book e80_need_fitting F_need_possible
  have e82_need_possible := fd_ok (n := 1) F_need_possible m_need_possible rfl b_need_possible TPoss_mono g_need_possible
  have g_moved_inC := fn_moved_inC (base := base) (w := w) (P := l.prog) (mg := mg) y_len e44_formula_by e17_values_in F_moved_in
  have e84_moved_in := fd_ok (n := 2) F_moved_in m_moved_in rfl b_moved_in (TResC_mono _ _) g_moved_inC
  have e85_formula_by := fd_ok (n := 1) F_formula_by m_formula_by rfl b_formula_by TBy_mono (fn_toF by_froz g_formula_byC)
  have g_first_from := fn_first_from (base := base) (w := w) (P := l.prog) (mg := mg) F_first_from
  have e87_first_from := fd_ok (n := 2) F_first_from m_first_from rfl b_first_from TFst_mono g_first_from
  have g_inverse_of := fn_inverse_of (base := base) (w := w) (P := l.prog) (mg := mg) F_inverse_of
  have e89_inverse_of := fd_ok (n := 2) F_inverse_of m_inverse_of rfl b_inverse_of TInv_mono g_inverse_of
  have g_met := fn_met (base := base) (w := w) (P := l.prog) (mg := mg) e11_divisor_of e89_inverse_of F_met
  have e91_met := fd_ok (n := 2) F_met m_met rfl b_met TMet_mono g_met
  have g_class_by := fn_class_by (base := base) (w := w) (P := l.prog) (mg := mg) y_abs e91_met F_class_by
  have e93_class_by := fd_ok (n := 2) F_class_by m_class_by rfl b_class_by TClsBy_mono g_class_by
  have g_formula_for := fn_formula_for (base := base) (w := w) (P := l.prog) (mg := mg) y_dict y_list y_range v_MOST_WIDE e82_need_possible e84_moved_in e85_formula_by e87_first_from e93_class_by F_formula_for
  have e95_formula_for := fd_ok (n := 1) F_formula_for m_formula_for rfl b_formula_for TForC_mono g_formula_for
  have g_lies_on := fn_lies_on (base := base) (w := w) (P := l.prog) (mg := mg) y_all e74_need_book e9_need_formula e15_value_in F_lies_on
  have e97_lies_on := fd_ok (n := 2) F_lies_on m_lies_on rfl b_lies_on TLies_mono g_lies_on
  have g_for_right := fn_for_right (base := base) (w := w) (P := l.prog) (mg := mg) y_int y_len y_list e66_l_book e3_l_pick e95_formula_for e7_is_formula e97_lies_on e58_l_value F_l_for_right
  have e99_l_for_right := fd_ok (n := 1) F_l_for_right m_l_for_right rfl b_l_for_right TForR_mono g_for_right
  have e100_formula_for := fd_ok (n := 1) F_formula_for m_formula_for rfl b_formula_for TForE_mono (fn_toF for_froz g_formula_for)
  exact fn_law (base := base) (w := w) (P := l.prog) (mg := mg) y_int y_len y_max y_min y_range e1_l_store e3_l_pick e60_l_from_right e99_l_for_right e46_formula_from e100_formula_for e97_lies_on (fdk_ok F_formula_from m_formula_from (by simp) (fun _ _ _ _ _ _ us ws hu hw => match us, ws, hu, hw with | [], [_], _, _ => rfl) TFromC_mono g_formula_from) (fdk_ok F_formula_for m_formula_for (by simp) (fun _ _ _ _ _ _ us ws hu hw => match us, ws, hu, hw with | [], [_], _, _ => rfl) TForC_mono g_formula_for) (fdk_ok F_lies_on m_lies_on (by simp) (fun _ _ _ _ _ _ us ws hu hw => match us, ws, hu, hw with | [], [_, _], _, _ => rfl) TLies_mono g_lies_on) F_law
theorem walk {l : PySem.W.OpenLaw} {q : Program} {loose : List Str} {XP : (Str → Option Value) → Heap → Prop} {YP : World → Heap → Prop} {d : DefRec} {K : Params → PySem.W.Frag} (hn : l.most = some 63) (hdf : d.params.defaults = [])
    (hY : ∀ (w : World) (h : Heap), YP w h → (K w.params).In h)
    (F : ∀ (w : World) (mg : Str → Option Value) (fa : Addr) (h : Heap), (K w.params).In h → h.Ns mainGlobals mg → mg d.name = some (.ref fa) →
      ∃ fd : FuncData, (∀ (s : Shared) (u : Value), BindsTo s fd ⟨[u], []⟩ [("_law_script", u)]) ∧ ∀ base : Heap, (K w.params).In base → base.Ns mainGlobals mg → base.NoDigits → FnG l.prog w (K w.params) mg base (L2.CX l.prog w) 9 fa fd ["_law_script"] (spG (K w.params) TLaw)) :
    PySem.W.WalkO q loose XP YP l.row.toRowW d [] (fun f vs => PySem.call f vs) :=
  walk_GD (k := 9) (x := "_law_script") (T := TLaw) hn hdf ⟨rfl, by decide, by decide⟩ hY F (fun w H a ns hl hS => law_sp hl hS)
end PW
open PySem PySem.W PyProof.Rows
set_option maxHeartbeats 0 in
theorem PySem.Challenge.cw_keeprests_k26_formulas_through_values_holds : PySem.Challenge.rw_keeprests_k26_formulas_through_values.Holds := by
  refine headX ?_
  k_fill
  refine PW.walk (l := PySem.Challenge.rw_keeprests_k26_formulas_through_values) rfl rfl (fun w h Y => PySem.W.kIn_of Y) ?F
  case F =>
    intro w mg fa h KX G hmg
    refine' PW.top_all KX G hmg ?aB ?sB ?rB ?vB ?aC_Unfit ?xL_Unfit ?sa_Unfit ?ga_Unfit ?gg_Unfit ?nf0_Unfit ?nf1_Unfit ?iC_Unfit ?tI_Unfit ?lI_Unfit ?cI_Unfit ?kI_Unfit ?kC_Unfit ?eC_Unfit ?tC_Unfit ?hC_Unfit ?isC_Unfit ?sC_Unfit ?a_is_integer ?l_is_integer ?c_is_integer ?k_is_integer ?a_is_told ?l_is_told ?c_is_told ?k_is_told ?a_is_item ?l_is_item ?c_is_item ?k_is_item ?a_is_book ?l_is_book ?c_is_book ?k_is_book ?a_need_book ?l_need_book ?c_need_book ?k_need_book ?a_divisor_of ?l_divisor_of ?c_divisor_of ?k_divisor_of ?a_multiple_of ?l_multiple_of ?c_multiple_of ?k_multiple_of ?a_divides ?l_divides ?c_divides ?k_divides ?a_do_fit ?l_do_fit ?c_do_fit ?k_do_fit ?a_conflicts_in ?l_conflicts_in ?c_conflicts_in ?k_conflicts_in ?a_conflict_in ?l_conflict_in ?c_conflict_in ?k_conflict_in ?a_need_fitting ?l_need_fitting ?c_need_fitting ?k_need_fitting ?a_need_possible ?l_need_possible ?c_need_possible ?k_need_possible ?a_inverse_of ?l_inverse_of ?c_inverse_of ?k_inverse_of ?a_met ?l_met ?c_met ?k_met ?a_class_by ?l_class_by ?c_class_by ?k_class_by ?a_first_from ?l_first_from ?c_first_from ?k_first_from ?a_is_stretch ?l_is_stretch ?lt_is_stretch ?ot_is_stretch ?c_is_stretch ?k_is_stretch ?a_need_stretch ?l_need_stretch ?lt_need_stretch ?ot_need_stretch ?c_need_stretch ?k_need_stretch ?a_items_in ?l_items_in ?c_items_in ?k_items_in ?a_need_right ?l_need_right ?c_need_right ?k_need_right ?a_differences_in ?l_differences_in ?c_differences_in ?k_differences_in ?a_is_formula ?l_is_formula ?c_is_formula ?k_is_formula ?a_need_formula ?l_need_formula ?c_need_formula ?k_need_formula ?a_multiple_to ?l_multiple_to ?c_multiple_to ?k_multiple_to ?a_plain_of ?l_plain_of ?c_plain_of ?k_plain_of ?a_value_in ?l_value_in ?c_value_in ?k_value_in ?a_values_in ?l_values_in ?c_values_in ?k_values_in ?a_formula_by ?l_formula_by ?c_formula_by ?k_formula_by ?a_moved_in ?l_moved_in ?c_moved_in ?k_moved_in ?a_values_of ?l_values_of ?c_values_of ?k_values_of ?a_formula_from ?l_formula_from ?c_formula_from ?k_formula_from ?a_formula_for ?l_formula_for ?c_formula_for ?k_formula_for ?a_lies_on ?l_lies_on ?c_lies_on ?k_lies_on ?a_l_store ?l_l_store ?c_l_store ?k_l_store ?a_l_pick ?l_l_pick ?c_l_pick ?k_l_pick ?a_l_common ?l_l_common ?c_l_common ?k_l_common ?a_l_chosen ?l_l_chosen ?c_l_chosen ?k_l_chosen ?a_l_value ?l_l_value ?c_l_value ?k_l_value ?a_l_row ?l_l_row ?c_l_row ?k_l_row ?a_l_bare ?l_l_bare ?c_l_bare ?k_l_bare ?a_l_spot ?l_l_spot ?c_l_spot ?k_l_spot ?a_l_made ?l_l_made ?c_l_made ?k_l_made ?a_l_modest ?l_l_modest ?c_l_modest ?k_l_modest ?a_l_from_right ?l_l_from_right ?c_l_from_right ?k_l_from_right ?a_l_book ?l_l_book ?c_l_book ?k_l_book ?a_l_for_right ?l_l_for_right ?c_l_for_right ?k_l_for_right ?a_law ?l_law ?c_law ?k_law ?z_int ?z_len ?z_max ?z_min ?z_range ?z_abs ?z_list ?z_repr ?z_isinstance ?z_all ?z_bool ?z_enumerate ?z_zip ?z_sum ?z_sorted ?z_dict ?z_tuple ?n_MOST_VALUES_formulas ?n_MOST_ITEMS_formulas ?n_MOST_WIDE ?n_MOST_ITEMS_books ?n_MOST
    (case aB => k_is)
    (case sB => k_is)
    (case rB => k_is)
    (case vB => k_is)
    (case aC_Unfit => k_is)
    (case xL_Unfit => k_is)
    (case sa_Unfit => k_is)
    (case ga_Unfit => k_is)
    (case gg_Unfit => k_is)
    (case nf0_Unfit => k_is)
    (case nf1_Unfit => k_is)
    (case iC_Unfit => k_is)
    (case tI_Unfit => k_is)
    (case lI_Unfit => k_is)
    (case cI_Unfit => k_is)
    (case kI_Unfit => k_is)
    (case kC_Unfit => k_is)
    (case eC_Unfit => k_is)
    (case tC_Unfit => k_is)
    (case hC_Unfit => k_is)
    (case isC_Unfit => k_is)
    (case sC_Unfit => first | rfl | k_is)
    (case a_is_integer => k_is)
    (case l_is_integer => k_is)
    (case c_is_integer => k_is)
    (case k_is_integer => k_is)
    (case a_is_told => k_is)
    (case l_is_told => k_is)
    (case c_is_told => k_is)
    (case k_is_told => k_is)
    (case a_is_item => k_is)
    (case l_is_item => k_is)
    (case c_is_item => k_is)
    (case k_is_item => k_is)
    (case a_is_book => k_is)
    (case l_is_book => k_is)
    (case c_is_book => k_is)
    (case k_is_book => k_is)
    (case a_need_book => k_is)
    (case l_need_book => k_is)
    (case c_need_book => k_is)
    (case k_need_book => k_is)
    (case a_divisor_of => k_is)
    (case l_divisor_of => k_is)
    (case c_divisor_of => k_is)
    (case k_divisor_of => k_is)
    (case a_multiple_of => k_is)
    (case l_multiple_of => k_is)
    (case c_multiple_of => k_is)
    (case k_multiple_of => k_is)
    (case a_divides => k_is)
    (case l_divides => k_is)
    (case c_divides => k_is)
    (case k_divides => k_is)
    (case a_do_fit => k_is)
    (case l_do_fit => k_is)
    (case c_do_fit => k_is)
    (case k_do_fit => k_is)
    (case a_conflicts_in => k_is)
    (case l_conflicts_in => k_is)
    (case c_conflicts_in => k_is)
    (case k_conflicts_in => k_is)
    (case a_conflict_in => k_is)
    (case l_conflict_in => k_is)
    (case c_conflict_in => k_is)
    (case k_conflict_in => k_is)
    (case a_need_fitting => k_is)
    (case l_need_fitting => k_is)
    (case c_need_fitting => k_is)
    (case k_need_fitting => k_is)
    (case a_need_possible => k_is)
    (case l_need_possible => k_is)
    (case c_need_possible => k_is)
    (case k_need_possible => k_is)
    (case a_inverse_of => k_is)
    (case l_inverse_of => k_is)
    (case c_inverse_of => k_is)
    (case k_inverse_of => k_is)
    (case a_met => k_is)
    (case l_met => k_is)
    (case c_met => k_is)
    (case k_met => k_is)
    (case a_class_by => k_is)
    (case l_class_by => k_is)
    (case c_class_by => k_is)
    (case k_class_by => k_is)
    (case a_first_from => k_is)
    (case l_first_from => k_is)
    (case c_first_from => k_is)
    (case k_first_from => k_is)
    (case a_is_stretch => k_is)
    (case l_is_stretch => k_is)
    (case lt_is_stretch => k_is)
    (case ot_is_stretch => exact rfl)
    (case c_is_stretch => k_is)
    (case k_is_stretch => k_is)
    (case a_need_stretch => k_is)
    (case l_need_stretch => k_is)
    (case lt_need_stretch => k_is)
    (case ot_need_stretch => exact rfl)
    (case c_need_stretch => k_is)
    (case k_need_stretch => k_is)
    (case a_items_in => k_is)
    (case l_items_in => k_is)
    (case c_items_in => k_is)
    (case k_items_in => k_is)
    (case a_need_right => k_is)
    (case l_need_right => k_is)
    (case c_need_right => k_is)
    (case k_need_right => k_is)
    (case a_differences_in => k_is)
    (case l_differences_in => k_is)
    (case c_differences_in => k_is)
    (case k_differences_in => k_is)
    (case a_is_formula => k_is)
    (case l_is_formula => k_is)
    (case c_is_formula => k_is)
    (case k_is_formula => k_is)
    (case a_need_formula => k_is)
    (case l_need_formula => k_is)
    (case c_need_formula => k_is)
    (case k_need_formula => k_is)
    (case a_multiple_to => k_is)
    (case l_multiple_to => k_is)
    (case c_multiple_to => k_is)
    (case k_multiple_to => k_is)
    (case a_plain_of => k_is)
    (case l_plain_of => k_is)
    (case c_plain_of => k_is)
    (case k_plain_of => k_is)
    (case a_value_in => k_is)
    (case l_value_in => k_is)
    (case c_value_in => k_is)
    (case k_value_in => k_is)
    (case a_values_in => k_is)
    (case l_values_in => k_is)
    (case c_values_in => k_is)
    (case k_values_in => k_is)
    (case a_formula_by => k_is)
    (case l_formula_by => k_is)
    (case c_formula_by => k_is)
    (case k_formula_by => k_is)
    (case a_moved_in => k_is)
    (case l_moved_in => k_is)
    (case c_moved_in => k_is)
    (case k_moved_in => k_is)
    (case a_values_of => k_is)
    (case l_values_of => k_is)
    (case c_values_of => k_is)
    (case k_values_of => k_is)
    (case a_formula_from => k_is)
    (case l_formula_from => k_is)
    (case c_formula_from => k_is)
    (case k_formula_from => k_is)
    (case a_formula_for => k_is)
    (case l_formula_for => k_is)
    (case c_formula_for => k_is)
    (case k_formula_for => k_is)
    (case a_lies_on => k_is)
    (case l_lies_on => k_is)
    (case c_lies_on => k_is)
    (case k_lies_on => k_is)
    (case a_l_store => k_is)
    (case l_l_store => k_is)
    (case c_l_store => k_is)
    (case k_l_store => k_is)
    (case a_l_pick => k_is)
    (case l_l_pick => k_is)
    (case c_l_pick => k_is)
    (case k_l_pick => k_is)
    (case a_l_common => k_is)
    (case l_l_common => k_is)
    (case c_l_common => k_is)
    (case k_l_common => k_is)
    (case a_l_chosen => k_is)
    (case l_l_chosen => k_is)
    (case c_l_chosen => k_is)
    (case k_l_chosen => k_is)
    (case a_l_value => k_is)
    (case l_l_value => k_is)
    (case c_l_value => k_is)
    (case k_l_value => k_is)
    (case a_l_row => k_is)
    (case l_l_row => k_is)
    (case c_l_row => k_is)
    (case k_l_row => k_is)
    (case a_l_bare => k_is)
    (case l_l_bare => k_is)
    (case c_l_bare => k_is)
    (case k_l_bare => k_is)
    (case a_l_spot => k_is)
    (case l_l_spot => k_is)
    (case c_l_spot => k_is)
    (case k_l_spot => k_is)
    (case a_l_made => k_is)
    (case l_l_made => k_is)
    (case c_l_made => k_is)
    (case k_l_made => k_is)
    (case a_l_modest => k_is)
    (case l_l_modest => k_is)
    (case c_l_modest => k_is)
    (case k_l_modest => k_is)
    (case a_l_from_right => k_is)
    (case l_l_from_right => k_is)
    (case c_l_from_right => k_is)
    (case k_l_from_right => k_is)
    (case a_l_book => k_is)
    (case l_l_book => k_is)
    (case c_l_book => k_is)
    (case k_l_book => k_is)
    (case a_l_for_right => k_is)
    (case l_l_for_right => k_is)
    (case c_l_for_right => k_is)
    (case k_l_for_right => k_is)
    (case a_law => k_is)
    (case l_law => k_is)
    (case c_law => k_is)
    (case k_law => k_is)
    (case z_int => k_is)
    (case z_len => k_is)
    (case z_max => k_is)
    (case z_min => k_is)
    (case z_range => k_is)
    (case z_abs => k_is)
    (case z_list => k_is)
    (case z_repr => k_is)
    (case z_isinstance => k_is)
    (case z_all => k_is)
    (case z_bool => k_is)
    (case z_enumerate => k_is)
    (case z_zip => k_is)
    (case z_sum => k_is)
    (case z_sorted => k_is)
    (case z_dict => k_is)
    (case z_tuple => k_is)
    (case n_MOST_VALUES_formulas => k_is)
    (case n_MOST_ITEMS_formulas => k_is)
    (case n_MOST_WIDE => k_is)
    (case n_MOST_ITEMS_books => k_is)
    (case n_MOST => k_is)
