import PyProof.Rows.All
import Wide.All
import OpenK.AllK
import Wide.FinOn
import HandS.ForMost
import HandS.ForExc
import HandS.Walk
import HandS.Wide
import HandS.WideBits
import HandS.Strs
import HandS.IsInst
import HandS.Style
import HandS.Deep
import HandS.CallSlots
import HandS.SetFor
import HandS.RaiseMore
import HandS.ExcInit
import HandS.SortRule
import HandS.SortInts
import HandS.Conv
import PyProof.P3Eq
import HandS.TryOnly
import HandS.TupLe
import PyProof.LongRange
import HandS.Defaults
import HandS.ExcField
import KE.KDictZip
import HandS.Iter
import HandS.TupSets
import HandS.SortOrd
import HandS.TryMany
import HandS.Exc
import HandS.Property
import HandS.WordsExc
import KE.KExcIs
import HandS.ExcIs
import HandS.Star
import PySem.Challenge.RW_keeprests_k58_errors_of_notebooks
set_option Elab.async false
set_option linter.all false
set_option maxRecDepth 100000
set_option maxHeartbeats 4000000
section
open PySem PySem.W PyProof.Rows
set_option maxHeartbeats 0 in
open_top headX for PySem.Challenge.rw_keeprests_k58_errors_of_notebooks
end
/-! PW1 -/
namespace PW
open PySem L2

/-- data: cel a the mutable list (a cell) at a; raw v any other value; exc a dd fs the exception at a, its dict at dd, its fields being ints -/
inductive D where
  | non | bl (b : Bool) | int (i : Int) | str (x : Str) | tup (ds : List D) | lst (ds : List D) | cel (a : Addr) | raw (v : V)
  | exc (a dd : Addr) (fs : List (Str × Int))
inductive Cell where
  | lst (ds : List D) | dct (kvs : List (Key × D)) | set (w : World) (f : Int → Bool) (n : Nat)
  /-- an instance of the class at C, its dict at dx -/
  | ins (C dx : Addr) (fs : List (Str × D))
abbrev Cells := List (Addr × Cell)
abbrev Slots := List (Option D)

mutual
inductive Rep (K : PySem.W.Frag) (F : Hp) : V → D → Prop
  | non : Rep K F .non .non
  | bl (b : Bool) : Rep K F (.bl b) (.bl b)
  | int (i : Int) : Rep K F (.int i) (.int i)
  | str (x : Str) : Rep K F (.str x) (.str x)
  | tup {a : Addr} {vs : List V} {ds : List D} : SqT K F a vs → Reps K F vs ds → Rep K F (.ref a) (.tup ds)
  | lst {a : Addr} {vs : List V} {ds : List D} : SqL K F a vs → Reps K F vs ds → Rep K F (.ref a) (.lst ds)
  | cel (a : Addr) : Rep K F (.ref a) (.cel a)
  | raw (v : V) : Rep K F v (.raw v)
  | exc (a dd : Addr) (fs : List (Str × Int)) : F dd = some (.xd (fs.map fun p => (p.1, V.int p.2))) → Rep K F (.ref a) (.exc a dd fs)
inductive Reps (K : PySem.W.Frag) (F : Hp) : List V → List D → Prop
  | nil : Reps K F [] []
  | cons {v : V} {vs : List V} {d : D} {ds : List D} : Rep K F v d → Reps K F vs ds → Reps K F (v :: vs) (d :: ds)
end

theorem Same.tup {K : PySem.W.Frag} {H H' : Hp} {a : Addr} {xs : List V} (e : Same H H') (h : SqT K H a xs) : SqT K H' a xs := by
  rcases h with (h | ⟨o, h⟩) | h
  · exact .inl (.inl (e _ _ h))
  · exact .inl (.inr ⟨o, e _ _ h⟩)
  · exact .inr h

section
variable {K : PySem.W.Frag} {F F' : Hp}
mutual
theorem Rep.mono (s : Same F F') : ∀ (d : D) (v : V), Rep K F v d → Rep K F' v d
  | .non, _, h => by cases h; exact .non
  | .bl _, _, h => by cases h; exact .bl _
  | .int _, _, h => by cases h; exact .int _
  | .str _, _, h => by cases h; exact .str _
  | .tup ds, _, h => by cases h with | tup a b => exact .tup (Same.tup s a) (Reps.mono s ds _ b)
  | .lst ds, _, h => by cases h with | lst a b => exact .lst (s.seq a) (Reps.mono s ds _ b)
  | .cel k, _, h => by cases h with | cel a => exact .cel _
  | .raw _, _, h => by cases h; exact .raw _
  | .exc _ _ _, _, h => by cases h with | exc _ _ _ e => exact .exc _ _ _ (s _ _ e)
theorem Reps.mono (s : Same F F') : ∀ (ds : List D) (vs : List V), Reps K F vs ds → Reps K F' vs ds
  | [], _, h => by cases h; exact .nil
  | d :: ds, _, h => by cases h with | cons a b => exact .cons (Rep.mono s d _ a) (Reps.mono s ds _ b)
end
theorem Rep.up {v : V} {d : D} (h : Rep K F v d) (s : Same F F') : Rep K F' v d := Rep.mono s d v h
theorem Reps.up {vs : List V} {ds : List D} (h : Reps K F vs ds) (s : Same F F') : Reps K F' vs ds := Reps.mono s ds vs h
theorem Reps.length : ∀ {vs : List V} {ds : List D}, Reps K F vs ds → vs.length = ds.length
  | _, [], h => by cases h; rfl
  | _, d :: ds, h => by cases h with | cons a b => simp [Reps.length b]
theorem Reps.get : ∀ {vs : List V} {ds : List D} {i : Nat} {d : D}, Reps K F vs ds → ds[i]? = some d → ∃ v, vs[i]? = some v ∧ Rep K F v d
  | _, [], i, d, h, e => by simp at e
  | _, d0 :: ds, 0, d, h, e => by
    cases h with | cons a b => simp at e; subst e; exact ⟨_, rfl, a⟩
  | _, d0 :: ds, i + 1, d, h, e => by
    cases h with
    | cons a b =>
      obtain ⟨v, h1, h2⟩ := Reps.get (i := i) b (by simpa using e)
      exact ⟨v, by simpa using h1, h2⟩
theorem Reps.get' : ∀ {vs : List V} {ds : List D} {i : Nat} {v : V}, Reps K F vs ds → vs[i]? = some v → ∃ d, ds[i]? = some d ∧ Rep K F v d
  | _, [], i, v, h, e => by cases h; simp at e
  | _, d0 :: ds, 0, v, h, e => by
    cases h with | cons a b => simp at e; subst e; exact ⟨_, rfl, a⟩
  | _, d0 :: ds, i + 1, v, h, e => by
    cases h with
    | cons a b =>
      obtain ⟨d, h1, h2⟩ := Reps.get' (i := i) b (by simpa using e)
      exact ⟨d, by simpa using h1, h2⟩
theorem Reps.append : ∀ {vs ws : List V} {ds es : List D}, Reps K F vs ds → Reps K F ws es → Reps K F (vs ++ ws) (ds ++ es)
  | _, _, [], es, h, g => by cases h; exact g
  | _, _, d :: ds, es, h, g => by cases h with | cons a b => exact .cons a (b.append g)
theorem Reps.take : ∀ {vs : List V} {ds : List D} (n : Nat), Reps K F vs ds → Reps K F (vs.take n) (ds.take n)
  | _, _, 0, _ => by simpa using Reps.nil
  | _, [], n + 1, h => by cases h; exact .nil
  | _, d :: ds, n + 1, h => by cases h with | cons a b => simpa using Reps.cons a (b.take n)
theorem Reps.drop : ∀ {vs : List V} {ds : List D} (n : Nat), Reps K F vs ds → Reps K F (vs.drop n) (ds.drop n)
  | _, _, 0, h => by simpa using h
  | _, [], n + 1, h => by cases h; exact .nil
  | _, d :: ds, n + 1, h => by cases h with | cons a b => simpa using b.drop n
theorem Reps.set : ∀ {vs : List V} {ds : List D} {v : V} {d : D} (n : Nat), Rep K F v d → Reps K F vs ds → Reps K F (vs.set n v) (ds.set n d)
  | _, [], _, _, n, r, h => by cases h; exact .nil
  | _, _ :: ds, _, _, 0, r, h => by cases h with | cons a b => exact .cons r b
  | _, _ :: ds, _, _, n + 1, r, h => by cases h with | cons a b => exact .cons a (b.set n r)
theorem Reps.ints : ∀ (ns : List Int), Reps K F (ns.map V.int) (ns.map D.int)
  | [] => .nil
  | n :: ns => .cons (.int n) (Reps.ints ns)
theorem Reps.bls_inv : ∀ {ns : List Bool} {vs : List V}, Reps K F vs (ns.map D.bl) → vs = ns.map V.bl
  | [], _, h => by cases h; rfl
  | n :: ns, _, h => by cases h with | cons a b => cases a; rw [Reps.bls_inv b]; rfl
end


def KVs (K : PySem.W.Frag) (F : Hp) : List (Key × V) → List (Key × D) → Prop := Paired fun p q => p.1 = q.1 ∧ Rep K F p.2 q.2
theorem KVs.up {K : PySem.W.Frag} {F F' : Hp} (s : Same F F') : ∀ {xs : List (Key × V)} {ys : List (Key × D)}, KVs K F xs ys → KVs K F' xs ys
  | _, _, .nil => .nil
  | _, _, .cons h t => .cons ⟨h.1, h.2.up s⟩ (KVs.up s t)
def AVs (K : PySem.W.Frag) (F : Hp) : List (Str × V) → List (Str × D) → Prop := Paired fun p q => p.1 = q.1 ∧ Rep K F p.2 q.2
theorem AVs.up {K : PySem.W.Frag} {F F' : Hp} (s : Same F F') : ∀ {xs : List (Str × V)} {ys : List (Str × D)}, AVs K F xs ys → AVs K F' xs ys
  | _, _, .nil => .nil
  | _, _, .cons h t => .cons ⟨h.1, h.2.up s⟩ (AVs.up s t)
def CellIs (K : PySem.W.Frag) (F : Hp) (H : Hp) (a : Addr) : Cell → Prop
  | .lst ds => ∃ vs, H a = some (.lst vs) ∧ Reps K F vs ds
  | .dct kvs => ∃ xs, H a = some (.dK xs) ∧ KVs K F xs kvs
  | .set w f n => H a = some (SetO w a f n)
  | .ins C dx fs => (∃ vs, H a = some (.ins C dx vs) ∧ AVs K F vs fs) ∧ F dx = some (.own a)
structure Stt (K : PySem.W.Frag) (F : Hp) (M : Cells) (δ : Slots) (σ : L2.St) (H : Hp) : Prop where
  le : Same F H
  nd : (M.map Prod.fst).Nodup
  cell : ∀ p ∈ M, CellIs K F H p.1 p.2
  out : ∀ p ∈ M, F p.1 = none
  slot : ∀ (i : Nat) (d : D), δ[i]? = some (some d) → ∃ v, σ[i]? = some (some v) ∧ Rep K F v d
  dlen : δ.length = σ.length

section
variable {K : PySem.W.Frag} {F F' : Hp} {M M' : Cells} {δ : Slots} {σ : L2.St} {H H' : Hp}
theorem CellIs.mono (s : Same F F') {a : Addr} {c : Cell} (h : CellIs K F H a c) (e : H' a = H a) : CellIs K F' H' a c := by
  cases c with
  | lst ds => obtain ⟨vs, h1, h2⟩ := h; exact ⟨vs, e.trans h1, h2.up s⟩
  | dct kvs => obtain ⟨vs, h1, h2⟩ := h; exact ⟨vs, e.trans h1, KVs.up s h2⟩
  | set w f n => exact e.trans h
  | ins C dx fs => obtain ⟨⟨vs, h1, h2⟩, h3⟩ := h; exact ⟨⟨vs, e.trans h1, h2.up s⟩, s _ _ h3⟩
theorem CellIs.born {a : Addr} {c : Cell} (h : CellIs K F H a c) : H a ≠ none := by
  cases c with
  | lst ds => obtain ⟨vs, h1, h2⟩ := h; rw [h1]; simp
  | dct kvs => obtain ⟨vs, h1, h2⟩ := h; rw [h1]; simp
  | set w f n => exact fun z => by rw [show H a = _ from h] at z; cases z
  | ins C dx fs => obtain ⟨⟨vs, h1, h2⟩, h3⟩ := h; rw [h1]; simp
theorem Stt.cellAt (S : Stt K F M δ σ H) {a : Addr} {ds : List D} (h : (a, Cell.lst ds) ∈ M) : ∃ vs, H a = some (.lst vs) ∧ F a = none ∧ Reps K F vs ds := by
  obtain ⟨vs, h1, h2⟩ := S.cell _ h
  exact ⟨vs, h1, S.out _ h, h2⟩
theorem Stt.none_of (S : Stt K F M δ σ H) {a : Addr} (h : H a = none) : F a = none := by
  cases e : F a with
  | none => rfl
  | some u => rw [S.le a u e] at h; cases h
theorem Stt.ne_cell (S : Stt K F M δ σ H) {a : Addr} (h : H a = none) {p : Addr × Cell} (hp : p ∈ M) : p.1 ≠ a := fun z => (S.cell p hp).born (by rw [z]; exact h)
/-- a new object that is no cell, laid as frozen -/
theorem Stt.froz (S : Stt K F M δ σ H) {a : Addr} {o : HO} (h : H a = none) : Stt K (upd F a o) M δ σ (upd H a o) ∧ Same F (upd F a o) := by
  have fa : F a = none := S.none_of h
  have s : Same F (upd F a o) := fun b u e => by rw [upd_ne (ne_of_none e fa)]; exact e
  refine ⟨⟨fun b u e => ?_, S.nd, fun p hp => ?_, fun p hp => ?_, fun i d e => ?_, S.dlen⟩, s⟩
  · by_cases hb : b = a
    · subst hb; rw [upd_same] at e ⊢; exact e
    · rw [upd_ne hb] at e ⊢; exact S.le b u e
  · exact (S.cell p hp).mono s (by rw [upd_ne (S.ne_cell h hp)])
  · rw [upd_ne (S.ne_cell h hp)]; exact S.out p hp
  · obtain ⟨v, h1, h2⟩ := S.slot i d e
    exact ⟨v, h1, h2.up s⟩
/-- a new object, laid as a cell -/
theorem Stt.newCell (S : Stt K F M δ σ H) {a : Addr} {o : HO} {c : Cell} (h : H a = none) (hc : CellIs K F (upd H a o) a c) : Stt K F ((a, c) :: M) δ σ (upd H a o) := by
  have fa : F a = none := S.none_of h
  refine ⟨fun b u e => ?_, ?_, fun p hp => ?_, fun p hp => ?_, S.slot, S.dlen⟩
  · rw [upd_ne (ne_of_none e fa)]; exact S.le b u e
  · rw [List.map_cons, List.nodup_cons]
    refine ⟨fun hx => ?_, S.nd⟩
    obtain ⟨p, hp, e⟩ := List.mem_map.mp hx
    exact S.ne_cell h hp e
  · rcases List.mem_cons.mp hp with z | z
    · subst z; exact hc
    · exact (S.cell p z).mono (Same.refl _) (by rw [upd_ne (S.ne_cell h z)])
  · rcases List.mem_cons.mp hp with z | z
    · subst z; exact fa
    · exact S.out p z
theorem getElem?_set_cases {α : Type} {l : List α} {k j : Nat} {x y : α} (h : (l.set k x)[j]? = some y) : (j = k ∧ y = x) ∨ (j ≠ k ∧ l[j]? = some y) := by
  by_cases e : k = j
  · subst e
    have := (List.getElem?_eq_some_iff.mp h).1
    rw [List.getElem?_set_self (by simpa using this)] at h
    exact .inl ⟨rfl, (Option.some.inj h).symm⟩
  · rw [List.getElem?_set_ne e] at h
    exact .inr ⟨fun z => e z.symm, h⟩
theorem mem_set_cases {α : Type} {l : List α} {k : Nat} {x y : α} (h : y ∈ l.set k x) : y = x ∨ ∃ j, j ≠ k ∧ l[j]? = some y := by
  obtain ⟨j, e⟩ := List.getElem?_of_mem h
  rcases getElem?_set_cases e with ⟨_, h2⟩ | h
  · exact .inl h2
  · exact .inr ⟨j, h⟩
theorem ix_ne {M : Cells} (nd : (M.map Prod.fst).Nodup) {k j : Nat} {p q : Addr × Cell} (h : M[k]? = some p) (g : M[j]? = some q) (hne : j ≠ k) : q.1 ≠ p.1 := fun z => hne (nd_ix nd (a := by
    show (M.map Prod.fst)[j]? = some q.1
    rw [List.getElem?_map, g]; rfl) (b := by
    show (M.map Prod.fst)[k]? = some q.1
    rw [List.getElem?_map, h, z]; rfl))
/-- a cell changes -/
theorem Stt.setCell (S : Stt K F M δ σ H) {k : Nat} {a : Addr} {c c' : Cell} {o : HO} (hk : M[k]? = some (a, c)) (hc : CellIs K F (upd H a o) a c') : Stt K F (M.set k (a, c')) δ σ (upd H a o) := by
  have fa : F a = none := S.out _ (List.mem_of_getElem? hk)
  refine ⟨fun b u e => ?_, ?_, fun p hp => ?_, fun p hp => ?_, S.slot, S.dlen⟩
  · rw [upd_ne (ne_of_none e fa)]; exact S.le b u e
  · have e : (M.set k (a, c')).map Prod.fst = M.map Prod.fst := by
      rw [List.map_set]
      refine List.ext_getElem? fun i => ?_
      by_cases hi : k = i
      · subst hi
        have hl := (List.getElem?_eq_some_iff.mp hk).1
        rw [List.getElem?_set_self (by simpa using hl), List.getElem?_map, hk]; rfl
      · rw [List.getElem?_set_ne hi]
    rw [e]; exact S.nd
  · rcases mem_set_cases hp with rfl | ⟨j, hj, e⟩
    · exact hc
    · exact (S.cell p (List.mem_of_getElem? e)).mono (Same.refl _) (by rw [upd_ne (ix_ne S.nd hk e hj)])
  · rcases mem_set_cases hp with rfl | ⟨j, hj, e⟩
    · exact fa
    · exact S.out p (List.mem_of_getElem? e)
/-- a slot is set -/
theorem Stt.setSlot (S : Stt K F M δ σ H) {i : Nat} {v : V} {d : D} (r : Rep K F v d) : Stt K F M (δ.set i (some d)) (σ.set i (some v)) H := by
  refine ⟨S.le, S.nd, S.cell, S.out, fun j e h => ?_, by simp [S.dlen]⟩
  have hj : j < δ.length := by have := (List.getElem?_eq_some_iff.mp h).1; simpa using this
  rcases getElem?_set_cases h with ⟨h1, h2⟩ | ⟨h1, h2⟩
  · subst h1; cases h2
    exact ⟨v, by rw [List.getElem?_set_self (by rw [← S.dlen]; exact hj)], r⟩
  · obtain ⟨w, e1, e2⟩ := S.slot j e h2
    exact ⟨w, by rw [List.getElem?_set_ne (fun z => h1 z.symm)]; exact e1, e2⟩
/-- less is known of the slots -/
theorem Stt.slots {δ' : Slots} {σ' : L2.St} (S : Stt K F M δ σ H) (hl : δ'.length = σ'.length) (h : ∀ (i : Nat) (d : D), δ'[i]? = some (some d) → ∃ v, σ'[i]? = some (some v) ∧ Rep K F v d) : Stt K F M δ' σ' H :=
  ⟨S.le, S.nd, S.cell, S.out, h, hl⟩
theorem Stt.keep {F0 : Hp} {δ' : Slots} {σ' : L2.St} {M0 : Cells} {H0 : Hp} (S : Stt K F M δ σ H) (S0 : Stt K F0 M0 δ' σ' H0) (s : Same F0 F) : Stt K F M δ' σ' H :=
  S.slots S0.dlen fun i d e => let ⟨v, h1, h2⟩ := S0.slot i d e; ⟨v, h1, h2.up s⟩
/-- cells are forgotten (not frozen: they are no longer known at all) -/
theorem Stt.fewer (S : Stt K F M δ σ H) (h : M'.Sublist M) : Stt K F M' δ σ H :=
  ⟨S.le, S.nd.sublist (h.map _), fun p hp => S.cell p (h.subset hp), fun p hp => S.out p (h.subset hp), S.slot, S.dlen⟩
/-- a cell is frozen -/
theorem Stt.freeze (S : Stt K F M δ σ H) {k : Nat} {a : Addr} {ds : List D} (h : M[k]? = some (a, .lst ds)) :
    ∃ F', Same F F' ∧ Stt K F' (M.eraseIdx k) δ σ H ∧ Rep K F' (.ref a) (.lst ds) := by
  obtain ⟨vs, hH, fa, r⟩ := S.cellAt (List.mem_of_getElem? h)
  have s : Same F (upd F a (.lst vs)) := fun b u e => by rw [upd_ne (ne_of_none e fa)]; exact e
  have ne : ∀ p ∈ M.eraseIdx k, p.1 ≠ a := fun p hp => by
    obtain ⟨j, e⟩ := List.getElem?_of_mem hp
    rw [List.getElem?_eraseIdx] at e
    split at e
    · exact ix_ne S.nd h e (by omega)
    · exact ix_ne S.nd h e (by omega)
  have sub : ∀ p ∈ M.eraseIdx k, p ∈ M := fun p hp => (List.eraseIdx_sublist M k).subset hp
  refine ⟨upd F a (.lst vs), s, ⟨fun b u e => ?_, S.nd.sublist ((List.eraseIdx_sublist M k).map _), fun p hp => (S.cell p (sub p hp)).mono s rfl, fun p hp => ?_, fun i d e => ?_, S.dlen⟩, .lst (.of upd_same) (r.up s)⟩
  · by_cases hb : b = a
    · subst hb; rw [upd_same] at e; rw [hH]; exact e
    · rw [upd_ne hb] at e; exact S.le b u e
  · rw [upd_ne (ne p hp)]; exact S.out p (sub p hp)
  · obtain ⟨v, h1, h2⟩ := S.slot i d e
    exact ⟨v, h1, h2.up s⟩
end

/-- d is a list, frozen or a cell -/
def LV (M : Cells) (d : D) (ds : List D) : Prop := d = .lst ds ∨ ∃ (k : Nat) (a : Addr), d = .cel a ∧ M[k]? = some (a, .lst ds)
theorem LV.l {M : Cells} {ds : List D} : LV M (.lst ds) ds := .inl rfl
theorem LV.c {M : Cells} {a : Addr} {ds : List D} (k : Nat) (h : M[k]? = some (a, .lst ds)) : LV M (.cel a) ds := .inr ⟨k, a, rfl, h⟩
section
variable {K : PySem.W.Frag} {F : Hp} {M : Cells} {δ : Slots} {σ : L2.St} {H : Hp}
theorem Stt.readL (S : Stt K F M δ σ H) {v : V} {d : D} {ds : List D} (r : Rep K F v d) (h : LV M d ds) : ∃ a vs, v = .ref a ∧ SqL K H a vs ∧ Reps K F vs ds := by
  rcases h with rfl | ⟨k, a, rfl, h⟩
  · cases r with | lst a b => exact ⟨_, _, rfl, S.le.seq a, b⟩
  · cases r
    obtain ⟨vs, h1, h2, h3⟩ := S.cellAt (List.mem_of_getElem? h)
    exact ⟨_, vs, rfl, .of h1, h3⟩
theorem Stt.readT (S : Stt K F M δ σ H) {v : V} {ds : List D} (r : Rep K F v (.tup ds)) : ∃ a vs, v = .ref a ∧ SqT K H a vs ∧ Reps K F vs ds := by
  cases r with | tup a b => exact ⟨_, _, rfl, Same.tup S.le a, b⟩
end
end PW
/-! PW2 -/
namespace PW
open PySem L2 PyProof.Rows

structure Ex where
  cls : Addr
  fs : List (Str × D)
abbrev XP := Ex → Slots → Cells → Prop
def PX0 : XP := fun _ _ _ => False
def FsIs (K : PySem.W.Frag) (F : Hp) : List (Str × V) → List (Str × D) → Prop := Paired fun p q => p.1 = q.1 ∧ Rep K F p.2 q.2
def ExIs (K : PySem.W.Frag) (F H : Hp) (cls : Value) (d : Option Addr) (x : Ex) : Prop :=
  cls = .ref x.cls ∧ ((x.fs = [] ∧ d = none) ∨ ∃ dd vs, d = some dd ∧ H dd = some (.xd vs) ∧ FsIs K F vs x.fs)
def upX (K : PySem.W.Frag) (F : Hp) (P : XP) (cls : Value) (d : Option Addr) (σ' : L2.St) (H' : Hp) : Prop :=
  ∃ F' M' δ' x, Same F F' ∧ Stt K F' M' δ' σ' H' ∧ ExIs K F' H' cls d x ∧ P x δ' M'
def TakesP (X : Cx) (P : XP) (F : Hp) : Prop := ∃ W : WX, Takes X W ∧ ∀ cls d σ' H', upX X.K F P cls d σ' H' → W cls d σ' H'
theorem TakesP.up {X : Cx} {P : XP} {F F' : Hp} (t : TakesP X P F) (s : Same F F') : TakesP X P F' :=
  let ⟨W, h, k⟩ := t; ⟨W, h, fun cls d σ' H' ⟨F2, M2, δ2, x, s2, r⟩ => k cls d σ' H' ⟨F2, M2, δ2, x, s.trans s2, r⟩⟩
theorem TakesP.none {X : Cx} {F : Hp} : TakesP X PX0 F := ⟨fun _ _ _ _ => False, fun _ _ x => by
  obtain ⟨_, _, _, _, _, _, _, _, _, _, _, _, _, _, _, _, z⟩ := x
  exact z.elim, fun _ _ _ _ ⟨_, _, _, _, _, _, _, z⟩ => z.elim⟩
structure Go (X : Cx) (P : XP) (F : Hp) (M : Cells) (δ : Slots) (σ : L2.St) (H : Hp) : Prop where
  st : Stt X.K F M δ σ H
  tk : TakesP X P F

def upE (K : PySem.W.Frag) (F : Hp) (δ : Slots) (σ : L2.St) (Q : D → Cells → Prop) : VK := fun v H' => ∃ F' M' d, Same F F' ∧ Stt K F' M' δ σ H' ∧ Rep K F' v d ∧ Q d M'
def upT (K : PySem.W.Frag) (F : Hp) (δ : Slots) (σ : L2.St) (Q : Bool → Cells → Prop) : Bool → Hp → Prop := fun b H' => ∃ F' M', Same F F' ∧ Stt K F' M' δ σ H' ∧ Q b M'
def upA (K : PySem.W.Frag) (F : Hp) (δ : Slots) (σ : L2.St) (Q : List D → Cells → Prop) : List V → Hp → Prop := fun vs H' => ∃ F' M' ds, Same F F' ∧ Stt K F' M' δ σ H' ∧ Reps K F' vs ds ∧ Q ds M'
def tE (X : Cx) (e : Expr) : TE := fun σ H Q => ∀ pins s, Inv X pins σ H s → wpAny (model X.prog X.w) X.A (eval e X.env) (EP X pins σ Q) X.xe s
def tT (X : Cx) (e : Expr) : TT := fun σ H Q => ∀ pins s, Inv X pins σ H s → wpAny (model X.prog X.w) X.A (isTrue e X.env (eval e X.env)) (TP X pins σ Q) X.xe s
def tW (X : Cx) (e : Expr) : TT := fun σ H Q => ∀ whole pins s, Inv X pins σ H s → wpAny (model X.prog X.w) X.A (isTrue e X.env whole) (TP X pins σ Q) X.xe s
def tA (X : Cx) (es : List Expr) : TA := fun σ H Q => ∀ (pos : Pos) pins s, Inv X pins σ H s → wpAny (model X.prog X.w) X.A (spliced (backTo pos (starEach es X.env))) (AP X pins σ Q) X.xe s
theorem pe_sem {X : Cx} {e : Expr} : PE X e (tE X e) := ⟨fun pins s _ _ _ I h => h pins s I⟩
theorem pt_sem {X : Cx} {e : Expr} : PT X e (tT X e) := ⟨fun pins s _ _ _ I h => h pins s I⟩
theorem pw_sem {X : Cx} {e : Expr} : PW X e (tW X e) := ⟨fun w pins s _ _ _ I h => h w pins s I⟩
theorem pa_sem {X : Cx} {es : List Expr} : PA X es (tA X es) := ⟨fun pos pins s _ _ _ I h => h pos pins s I⟩
def WE (X : Cx) (P : XP) (e : Expr) (δ : Slots) (M : Cells) (Q : D → Cells → Prop) : Prop := ∀ σ H F, Go X P F M δ σ H → tE X e σ H (upE X.K F δ σ Q)
def WT (X : Cx) (P : XP) (e : Expr) (δ : Slots) (M : Cells) (Q : Bool → Cells → Prop) : Prop := ∀ σ H F, Go X P F M δ σ H → tT X e σ H (upT X.K F δ σ Q)
def WW (X : Cx) (P : XP) (e : Expr) (δ : Slots) (M : Cells) (Q : Bool → Cells → Prop) : Prop := ∀ σ H F, Go X P F M δ σ H → tW X e σ H (upT X.K F δ σ Q)
def WA (X : Cx) (P : XP) (es : List Expr) (δ : Slots) (M : Cells) (Q : List D → Cells → Prop) : Prop := ∀ σ H F, Go X P F M δ σ H → tA X es σ H (upA X.K F δ σ Q)

section
variable {X : Cx} {P : XP} {F : Hp} {M : Cells} {δ : Slots} {σ : L2.St} {H : Hp} {e a b c : Expr} {es : List Expr} {pos : Pos}
theorem EP.mono {pins : List (Addr × Obj)} {Q Q' : VK} (k : ∀ v H', Q v H' → Q' v H') {u : Value} {s : Shared} (h : EP X pins σ Q u s) : EP X pins σ Q' u s :=
  let ⟨v, H', I, r, q⟩ := h; ⟨v, H', I, r, k v H' q⟩
theorem tE.mono {Q Q' : VK} (h : tE X e σ H Q) (k : ∀ v H', Q v H' → Q' v H') : tE X e σ H Q' := fun pins s I => thn (h pins s I) fun _ _ q => EP.mono k q
theorem tT.mono {Q Q' : Bool → Hp → Prop} (h : tT X e σ H Q) (k : ∀ v H', Q v H' → Q' v H') : tT X e σ H Q' := fun pins s I => thn (h pins s I) fun _ _ ⟨H', I', q⟩ => ⟨H', I', k _ _ q⟩
theorem tW.mono {Q Q' : Bool → Hp → Prop} (h : tW X e σ H Q) (k : ∀ v H', Q v H' → Q' v H') : tW X e σ H Q' := fun w pins s I => thn (h w pins s I) fun _ _ ⟨H', I', q⟩ => ⟨H', I', k _ _ q⟩
theorem tA.mono {Q Q' : List V → Hp → Prop} (h : tA X es σ H Q) (k : ∀ v H', Q v H' → Q' v H') : tA X es σ H Q' := fun pos pins s I => thn (h pos pins s I) fun _ _ ⟨vs, H', I', r, q⟩ => ⟨vs, H', I', r, k _ _ q⟩
theorem WE.go {Q : D → Cells → Prop} (h : WE X P e δ M Q) (G : Go X P F M δ σ H) {Q' : VK} (k : ∀ v H' F' M' d, Same F F' → Go X P F' M' δ σ H' → Rep X.K F' v d → Q d M' → Q' v H') : tE X e σ H Q' :=
  (h σ H F G).mono fun v H' ⟨F', M', d, s, S, r, q⟩ => k v H' F' M' d s ⟨S, G.tk.up s⟩ r q
theorem WT.go {Q : Bool → Cells → Prop} (h : WT X P e δ M Q) (G : Go X P F M δ σ H) {Q' : Bool → Hp → Prop} (k : ∀ v H' F' M', Same F F' → Go X P F' M' δ σ H' → Q v M' → Q' v H') : tT X e σ H Q' :=
  (h σ H F G).mono fun v H' ⟨F', M', s, S, q⟩ => k v H' F' M' s ⟨S, G.tk.up s⟩ q
theorem WW.go {Q : Bool → Cells → Prop} (h : WW X P e δ M Q) (G : Go X P F M δ σ H) {Q' : Bool → Hp → Prop} (k : ∀ v H' F' M', Same F F' → Go X P F' M' δ σ H' → Q v M' → Q' v H') : tW X e σ H Q' :=
  (h σ H F G).mono fun v H' ⟨F', M', s, S, q⟩ => k v H' F' M' s ⟨S, G.tk.up s⟩ q
theorem WA.go {Q : List D → Cells → Prop} (h : WA X P es δ M Q) (G : Go X P F M δ σ H) {Q' : List V → Hp → Prop} (k : ∀ vs H' F' M' ds, Same F F' → Go X P F' M' δ σ H' → Reps X.K F' vs ds → Q ds M' → Q' vs H') : tA X es σ H Q' :=
  (h σ H F G).mono fun v H' ⟨F', M', d, s, S, r, q⟩ => k v H' F' M' d s ⟨S, G.tk.up s⟩ r q
theorem we_of {t : TE} {Q : D → Cells → Prop} (p : PE X e t) (h : ∀ σ H F, Go X P F M δ σ H → t σ H (upE X.K F δ σ Q)) : WE X P e δ M Q := fun σ H F G pins s I => p.run pins s σ H _ I (h σ H F G)
theorem wt_of {t : TT} {Q : Bool → Cells → Prop} (p : PT X e t) (h : ∀ σ H F, Go X P F M δ σ H → t σ H (upT X.K F δ σ Q)) : WT X P e δ M Q := fun σ H F G pins s I => p.run pins s σ H _ I (h σ H F G)
theorem ww_of {t : TT} {Q : Bool → Cells → Prop} (p : PW X e t) (h : ∀ σ H F, Go X P F M δ σ H → t σ H (upT X.K F δ σ Q)) : WW X P e δ M Q := fun σ H F G w pins s I => p.run w pins s σ H _ I (h σ H F G)
theorem wa_of {t : TA} {Q : List D → Cells → Prop} (p : PA X es t) (h : ∀ σ H F, Go X P F M δ σ H → t σ H (upA X.K F δ σ Q)) : WA X P es δ M Q := fun σ H F G pos pins s I => p.run pos pins s σ H _ I (h σ H F G)
theorem ret {K : PySem.W.Frag} {F0 F : Hp} {δ : Slots} {σ : L2.St} {H : Hp} {M : Cells} {Q : D → Cells → Prop} {v : V} {d : D} (S : Stt K F M δ σ H) (s : Same F0 F) (r : Rep K F v d) (q : Q d M) : upE K F0 δ σ Q v H := ⟨F, M, d, s, S, r, q⟩
theorem WE.imp {Q Q' : D → Cells → Prop} (h : WE X P e δ M Q) (k : ∀ d M', Q d M' → Q' d M') : WE X P e δ M Q' := fun σ H F G => h.go G fun v H' F' M' d s G' r q => ret G'.st s r (k d M' q)
theorem WT.imp {Q Q' : Bool → Cells → Prop} (h : WT X P e δ M Q) (k : ∀ d M', Q d M' → Q' d M') : WT X P e δ M Q' := fun σ H F G => h.go G fun v H' F' M' s G' q => ⟨F', M', s, G'.st, k _ _ q⟩
theorem we_name {i : Nat} {x : Str} {Q : D → Cells → Prop} {d : D} (hN : X.N[i]? = some x) (hv : Vis X.env.scope x) (hd : δ[i]? = some (some d)) (h : Q d M) (h1 : (x == ("__debug__" : Str)) = false := by decide) (h2 : (x == ("__classdict__" : Str)) = false := by decide) : WE X P (.Name x pos) δ M Q :=
  we_of (pe_var hN hv h1 h2) fun σ H F G => let ⟨v, h1, h2⟩ := G.st.slot i d hd; ⟨v, h1, ret G.st (Same.refl _) h2 h⟩
theorem we_int {i : Int} {j} {Q : D → Cells → Prop} (h : Q (.int i) M) : WE X P (.Constant (.int i) j pos) δ M Q := we_of pe_int fun σ H F G => ret G.st (Same.refl _) (.int i) h
theorem we_bl {i : Bool} {j} {Q : D → Cells → Prop} (h : Q (.bl i) M) : WE X P (.Constant (.bool i) j pos) δ M Q := we_of pe_bl fun σ H F G => ret G.st (Same.refl _) (.bl i) h
theorem we_non {j} {Q : D → Cells → Prop} (h : Q .non M) : WE X P (.Constant .none j pos) δ M Q := we_of pe_non fun σ H F G => ret G.st (Same.refl _) .non h
/-- a module's constant -/
theorem we_glob {x : Str} {d : D} {v : V} {u : Value} {Q : D → Cells → Prop} (hg : Gl X x) (hm : X.mg x = some u) (r : RelV v u) (rd : ∀ K F, Rep K F v d) (h : Q d M) (hd : (x == ("__debug__" : Str)) = false := by decide) : WE X P (.Name x pos) δ M Q :=
  we_of (pe_glob hg hm r hd) fun σ H F G => ret G.st (Same.refl _) (rd _ _) h
/-- a built-in class or function as a value -/
theorem we_bltn {x : Str} {v : V} {u : Value} {Q : D → Cells → Prop} (hg : Gl X x) (hm : X.mg x = none) (hv : bootBuiltins x = some u) (r : RelV v u) (h : Q (.raw v) M) (hn : x ≠ "__name__" := by decide) (hd : (x == ("__debug__" : Str)) = false := by decide) : WE X P (.Name x pos) δ M Q :=
  we_of (pe_bltn hg hm hv r hn hd) fun σ H F G => ret G.st (Same.refl _) (.raw v) h

abbrev RD2 := D → D → Cells → (D → Cells → Prop) → Prop
def Lift2 (X : Cx) (r : R2) (R : RD2) : Prop := ∀ {F0 F : Hp} {M : Cells} {δ : Slots} {σ : L2.St} {H : Hp} {x y : V} {d e : D} {Q : D → Cells → Prop} {Q' : VK}, (∀ v H', upE X.K F0 δ σ Q v H' → Q' v H') → Same F0 F → Stt X.K F M δ σ H → Rep X.K F x d → Rep X.K F y e → R d e M Q → r x y H Q'
abbrev RD1 := D → Cells → (D → Cells → Prop) → Prop
def Lift1 (X : Cx) (r : V → Hp → VK → Prop) (R : RD1) : Prop := ∀ {F0 F : Hp} {M : Cells} {δ : Slots} {σ : L2.St} {H : Hp} {x : V} {d : D} {Q : D → Cells → Prop} {Q' : VK}, (∀ v H', upE X.K F0 δ σ Q v H' → Q' v H') → Same F0 F → Stt X.K F M δ σ H → Rep X.K F x d → R d M Q → r x H Q'
abbrev RDA := List D → Cells → (D → Cells → Prop) → Prop
def LiftA (X : Cx) (r : List V → Hp → VK → Prop) (R : RDA) : Prop := ∀ {F0 F : Hp} {M : Cells} {δ : Slots} {σ : L2.St} {H : Hp} {xs : List V} {ds : List D} {Q : D → Cells → Prop} {Q' : VK}, (∀ v H', upE X.K F0 δ σ Q v H' → Q' v H') → Same F0 F → Stt X.K F M δ σ H → Reps X.K F xs ds → R ds M Q → r xs H Q'
theorem bind2 {ea eb : Expr} {R : RD2} {r : R2} {Q : D → Cells → Prop} {Q' : VK} (k : ∀ v H', upE X.K F δ σ Q v H' → Q' v H') (L : Lift2 X r R) (h : WE X P ea δ M fun d M1 => WE X P eb δ M1 fun e M2 => R d e M2 Q) (G : Go X P F M δ σ H) : tOp r (tE X ea) (tE X eb) σ H Q' :=
  h.go G fun v H1 F1 M1 d s1 G1 r1 q1 => q1.go G1 fun u H2 F2 M2 e s2 G2 r2 q2 => L k (s1.trans s2) G2.st (r1.up s2) r2 q2
theorem we_op {op : Operator} {r : R2} {R : RD2} {Q : D → Cells → Prop} (ho : OpR X (binaryOp op) r) (L : Lift2 X r R) (h : WE X P a δ M fun d M1 => WE X P b δ M1 fun e M2 => R d e M2 Q) : WE X P (.BinOp a op b pos) δ M Q :=
  we_of (pe_op ho pe_sem pe_sem) fun σ H F G => bind2 (fun _ _ z => z) L h G
theorem we_un {op : UnaryOp} {r : V → Hp → VK → Prop} {R : RD1} {Q : D → Cells → Prop} (ho : UnR X (unaryOp op) r) (L : Lift1 X r R) (h : WE X P a δ M fun d M1 => R d M1 Q) : WE X P (.UnaryOp op a pos) δ M Q :=
  we_of (pe_un ho pe_sem) fun σ H F G => h.go G fun v H1 F1 M1 d s1 G1 r1 q1 => L (fun _ _ z => z) s1 G1.st r1 q1
theorem we_cmp {op : CmpOp} {r : R2} {R : RD2} {Q : D → Cells → Prop} (ho : OpR X (compareOp op) r) (L : Lift2 X r R) (hm : behindInMarks op b = false) (h : WE X P a δ M fun d M1 => WE X P b δ M1 fun e M2 => R d e M2 Q) : WE X P (.Compare a [op] [b] pos) δ M Q :=
  we_of (pe_cmpR ho pe_sem pe_sem hm) fun σ H F G => bind2 (fun _ _ z => z) L h G
/-- what comes is a bool -/
def onB (Q : Bool → Cells → Prop) : D → Cells → Prop := fun d M => ∃ k, d = .bl k ∧ Q k M
theorem onB_up {K : PySem.W.Frag} {F : Hp} {δ : Slots} {σ : L2.St} {H : Hp} {Q : Bool → Cells → Prop} {v : V} (h : upE K F δ σ (onB Q) v H) : ∃ k, v = .bl k ∧ upT K F δ σ Q k H := by
  obtain ⟨F', M', d, s, S, r, k, rfl, q⟩ := h
  cases r
  exact ⟨k, rfl, F', M', s, S, q⟩
theorem wt_cmp {op : CmpOp} {r : R2} {R : RD2} {Q : Bool → Cells → Prop} (ho : OpR X (compareOp op) r) (L : Lift2 X r R) (hm : behindInMarks op b = false) (h : WE X P a δ M fun d M1 => WE X P b δ M1 fun e M2 => R d e M2 (onB Q)) : WT X P (.Compare a [op] [b] pos) δ M Q :=
  wt_of (pt_cmpR ho pe_sem pe_sem hm) fun σ H F G => bind2 (fun _ _ z => onB_up z) L h G
theorem bind3 {ea eb ec : Expr} {R R' : RD2} {r r' : R2} {Q : D → Cells → Prop} {Q' : VK} (k : ∀ v H', upE X.K F δ σ Q v H' → Q' v H') (L : Lift2 X r R) (L' : Lift2 X r' R')
    (h : WE X P ea δ M fun d M1 => WE X P eb δ M1 fun e M2 => R d e M2 fun z M3 => ∃ b, z = .bl b ∧ if b = true then WE X P ec δ M3 fun f M4 => R' e f M4 Q else Q (.bl false) M3) (G : Go X P F M δ σ H) : tChain r r' (tE X ea) (tE X eb) (tE X ec) σ H Q' :=
  h.go G fun v H1 F1 M1 d s1 G1 r1 q1 => q1.go G1 fun u H2 F2 M2 e s2 G2 r2 q2 => L (fun v3 H3 z => by
    obtain ⟨F3, M3, d3, s3, S3, r3, b, rfl, q3⟩ := z
    cases r3
    refine ⟨b, rfl, ?_⟩
    have s03 : Same F F3 := (s1.trans s2).trans s3
    cases b with
    | false => rw [if_neg (by decide)] at q3 ⊢; exact k _ _ ⟨F3, M3, _, s03, S3, .bl _, q3⟩
    | true =>
      rw [if_pos rfl] at q3 ⊢
      exact q3.go ⟨S3, G2.tk.up s3⟩ fun w H4 F4 M4 f s4 G4 r4 q4 => L' k (s03.trans s4) G4.st (r2.up (s3.trans s4)) r4 q4) (Same.refl F2) G2.st (r1.up s2) r2 q2
theorem wt_chain {op op' : CmpOp} {R R' : RD2} {r r' : R2} {Q : Bool → Cells → Prop} (ho : OpR X (compareOp op) r) (ho' : OpR X (compareOp op') r') (L : Lift2 X r R) (L' : Lift2 X r' R')
    (h : WE X P a δ M fun d M1 => WE X P b δ M1 fun e M2 => R d e M2 fun z M3 => ∃ k, z = .bl k ∧ if k = true then WE X P c δ M3 fun f M4 => R' e f M4 (onB Q) else onB Q (.bl false) M3)
    (hm : lastMarks [op, op'] [b, c] = false := by with_unfolding_all rfl) : WT X P (.Compare a [op, op'] [b, c] pos) δ M Q :=
  wt_of (pt_chain ho ho' pe_sem pe_sem pe_sem hm) fun σ H F G => bind3 (fun _ _ z => onB_up z) L L' h G

theorem wt_val {Q : Bool → Cells → Prop} (h : WE X P e δ M (onB Q)) (he : ∀ whole, isTrue e X.env whole = (do let v ← whole; standAt e.pos; holding [v] (truthy v)) := by intro _; rfl) : WT X P e δ M Q :=
  wt_of (pt_val pe_sem he) fun σ H F G => h.go G fun v H' F' M' d s G' r q => onB_up (ret G'.st s r q)
theorem wt_not {Q : Bool → Cells → Prop} (h : WT X P a δ M fun k M' => Q (!k) M') : WT X P (.UnaryOp .Not a pos) δ M Q :=
  wt_of (pt_not pt_sem) fun σ H F G => h.go G fun v H' F' M' s G' q => ⟨F', M', s, G'.st, q⟩
theorem ww_wt {Q : Bool → Cells → Prop} (h : WW X P e δ M Q) : WT X P e δ M Q := wt_of pw_sem.pt h
theorem ww_and1 {Q : Bool → Cells → Prop} (h : WT X P a δ M Q) : WW X P (.BoolOp .And [a] pos) δ M Q := ww_of (pw_and1 pt_sem) h
theorem ww_or1 {Q : Bool → Cells → Prop} (h : WT X P a δ M Q) : WW X P (.BoolOp .Or [a] pos) δ M Q := ww_of (pw_or1 pt_sem) h
theorem ww_and {Q : Bool → Cells → Prop} (h : WT X P a δ M fun k M' => if k = true then WW X P (.BoolOp .And (b :: es) pos) δ M' Q else Q false M') : WW X P (.BoolOp .And (a :: b :: es) pos) δ M Q :=
  ww_of (pw_and pt_sem pw_sem) fun σ H F G => h.go G fun v H' F' M' s G' q => by
    cases v with
    | true => rw [if_pos rfl] at q ⊢; exact q.go G' fun _ _ F2 M2 s2 G2 q2 => ⟨F2, M2, s.trans s2, G2.st, q2⟩
    | false => rw [if_neg (by decide)] at q ⊢; exact ⟨F', M', s, G'.st, q⟩
theorem ww_or {Q : Bool → Cells → Prop} (h : WT X P a δ M fun k M' => if k = true then Q true M' else WW X P (.BoolOp .Or (b :: es) pos) δ M' Q) : WW X P (.BoolOp .Or (a :: b :: es) pos) δ M Q :=
  ww_of (pw_or pt_sem pw_sem) fun σ H F G => h.go G fun v H' F' M' s G' q => by
    cases v with
    | true => rw [if_pos rfl] at q ⊢; exact ⟨F', M', s, G'.st, q⟩
    | false => rw [if_neg (by decide)] at q ⊢; exact q.go G' fun _ _ F2 M2 s2 G2 q2 => ⟨F2, M2, s.trans s2, G2.st, q2⟩
theorem we_one {op} {Q : D → Cells → Prop} (h : WE X P a δ M Q) : WE X P (.BoolOp op [a] pos) δ M Q := we_of (pe_one pe_sem) h
theorem we_and {Q : D → Cells → Prop} (h : WE X P a δ M fun d M' => ∃ k, d = .bl k ∧ if k = true then WE X P (.BoolOp .And (b :: es) pos) δ M' Q else Q (.bl false) M') : WE X P (.BoolOp .And (a :: b :: es) pos) δ M Q :=
  we_of (pe_and pe_sem pe_sem) fun σ H F G => h.go G fun v H' F' M' d s G' r q => by
    obtain ⟨k, rfl, q⟩ := q
    cases r
    refine ⟨k, rfl, ?_⟩
    cases k with
    | true => rw [if_pos rfl] at q ⊢; exact q.go G' fun _ _ F2 M2 _ s2 G2 r2 q2 => ret G2.st (s.trans s2) r2 q2
    | false => rw [if_neg (by decide)] at q ⊢; exact ret G'.st s (.bl _) q
theorem we_if {Q : D → Cells → Prop} (h : WT X P c δ M fun k M' => if k = true then WE X P a δ M' Q else WE X P b δ M' Q) : WE X P (.IfExp c a b pos) δ M Q :=
  we_of (pe_ifExp pt_sem pe_sem pe_sem) fun σ H F G => h.go G fun v H' F' M' s G' q => by
    cases v with
    | true => rw [if_pos rfl] at q ⊢; exact q.go G' fun _ _ F2 M2 _ s2 G2 r2 q2 => ret G2.st (s.trans s2) r2 q2
    | false => rw [if_neg (by decide)] at q ⊢; exact q.go G' fun _ _ F2 M2 _ s2 G2 r2 q2 => ret G2.st (s.trans s2) r2 q2

theorem wa_nil {Q : List D → Cells → Prop} (h : Q [] M) : WA X P [] δ M Q := wa_of pa_nil fun σ H F G => ⟨F, M, [], Same.refl _, G.st, .nil, h⟩
theorem wa_cons {Q : List D → Cells → Prop} (h : WE X P e δ M fun d M1 => WA X P es δ M1 fun ds M2 => Q (d :: ds) M2) (hs : starEach (e :: es) X.env = (false, eval e X.env) :: starEach es X.env := by rfl) : WA X P (e :: es) δ M Q :=
  wa_of (pa_cons pe_sem pa_sem hs) fun σ H F G => h.go G fun v H1 F1 M1 d s1 G1 r1 q1 => q1.go G1 fun vs H2 F2 M2 ds s2 G2 r2 q2 => ⟨F2, M2, d :: ds, s1.trans s2, G2.st, .cons (r1.up s2) r2, q2⟩
theorem we_tup {x1} {Q : D → Cells → Prop} (h : WA X P es δ M fun ds M1 => ds.length ≤ sizeLine ∧ Q (.tup ds) M1) : WE X P (.Tuple es x1 pos) δ M Q :=
  we_of (pe_tup pa_sem) fun σ H F G => h.go G fun vs H1 F1 M1 ds s1 G1 r1 q1 => ⟨by rw [r1.length]; exact q1.1, fun p hp => by
    obtain ⟨S, s⟩ := G1.st.froz (o := .tup vs) hp
    exact ret S (s1.trans s) (.tup (.of upd_same) (r1.up s)) q1.2⟩
/-- [..], frozen -/
theorem we_lst {Q : D → Cells → Prop} (h : WA X P es δ M fun ds M1 => ds.length ≤ sizeLine ∧ Q (.lst ds) M1) : WE X P (.List es pos) δ M Q :=
  we_of (pe_lst pa_sem) fun σ H F G => h.go G fun vs H1 F1 M1 ds s1 G1 r1 q1 => ⟨by rw [r1.length]; exact q1.1, fun p hp => by
    obtain ⟨S, s⟩ := G1.st.froz (o := .lst vs) hp
    exact ret S (s1.trans s) (.lst (.of upd_same) (r1.up s)) q1.2⟩
theorem Stt.newL {K : PySem.W.Frag} {F : Hp} {M : Cells} {δ : Slots} {σ : L2.St} {H : Hp} (S : Stt K F M δ σ H) {p : Addr} {vs : List V} {ds : List D} (hp : H p = none) (r : Reps K F vs ds) : Stt K F ((p, .lst ds) :: M) δ σ (upd H p (.lst vs)) :=
  S.newCell hp ⟨vs, upd_same, r⟩
/-- [..], a cell -/
theorem we_lstC {Q : D → Cells → Prop} (h : WA X P es δ M fun ds M1 => ds.length ≤ sizeLine ∧ ∀ p, Q (.cel p) ((p, .lst ds) :: M1)) : WE X P (.List es pos) δ M Q :=
  we_of (pe_lst pa_sem) fun σ H F G => h.go G fun vs H1 F1 M1 ds s1 G1 r1 q1 => ⟨by rw [r1.length]; exact q1.1, fun p hp => ret (G1.st.newL hp r1) s1 (.cel p) (q1.2 p)⟩
/-- a cell is frozen -/
theorem we_froz (k : Nat) {Q : D → Cells → Prop} (h : WE X P e δ M fun d M1 => ∃ (p : Addr) (ds : List D), d = .cel p ∧ M1[k]? = some (p, .lst ds) ∧ Q (.lst ds) (M1.eraseIdx k)) : WE X P e δ M Q := fun σ H F G =>
  h.go G fun v H1 F1 M1 d s1 G1 r1 q1 => by
    obtain ⟨p, ds, rfl, hk, q⟩ := q1
    cases r1
    obtain ⟨F2, s2, S2, r2⟩ := G1.st.freeze hk
    exact ret S2 (s1.trans s2) r2 q
end
end PW
/-! PW3 -/
namespace PW
open PySem L2 PyProof.Rows

section
variable {X : Cx} {P : XP} {F : Hp} {M : Cells} {δ : Slots} {σ : L2.St} {H : Hp} {e a b c o : Expr} {es : List Expr} {pos apos p p2 : Pos}

theorem lift_I {C : Int → Int → Prop} {g : Int → Int → Int} : Lift2 X (rI C fun i j => .int (g i j)) (fun d e M Q => ∃ i j, d = .int i ∧ e = .int j ∧ C i j ∧ Q (.int (g i j)) M) := fun k s S r1 r2 h => by
  obtain ⟨i, j, rfl, rfl, hc, q⟩ := h
  cases r1; cases r2
  exact ⟨i, j, rfl, rfl, hc, k _ _ (ret S s (.int _) q)⟩
theorem lift_I0 {g : Int → Int → Int} : Lift2 X (rI0 fun i j => .int (g i j)) (fun d e M Q => ∃ i j, d = .int i ∧ e = .int j ∧ Q (.int (g i j)) M) := fun k s S r1 r2 h => by
  obtain ⟨i, j, rfl, rfl, q⟩ := h
  cases r1; cases r2
  exact ⟨i, j, rfl, rfl, k _ _ (ret S s (.int _) q)⟩
theorem lift_B0 {g : Int → Int → Bool} : Lift2 X (rI0 fun i j => .bl (g i j)) (fun d e M Q => ∃ i j, d = .int i ∧ e = .int j ∧ Q (.bl (g i j)) M) := fun k s S r1 r2 h => by
  obtain ⟨i, j, rfl, rfl, q⟩ := h
  cases r1; cases r2
  exact ⟨i, j, rfl, rfl, k _ _ (ret S s (.bl _) q)⟩
theorem Lift2.or {r r' : R2} {R R' : RD2} (h : Lift2 X r R) (h' : Lift2 X r' R') : Lift2 X (fun x y H Q => r x y H Q ∨ r' x y H Q) (fun d e M Q => R d e M Q ∨ R' d e M Q) := fun k s S r1 r2 q => q.elim (fun q => .inl (h k s S r1 r2 q)) fun q => .inr (h' k s S r1 r2 q)
theorem LiftA.or {r r' : List V → Hp → VK → Prop} {R R' : RDA} (h : LiftA X r R) (h' : LiftA X r' R') : LiftA X (fun x H Q => r x H Q ∨ r' x H Q) (fun d M Q => R d M Q ∨ R' d M Q) := fun k s S r1 q => q.elim (fun q => .inl (h k s S r1 q)) fun q => .inr (h' k s S r1 q)

def rCatQ (K : PySem.W.Frag) : R2 := fun x y H Q => ∃ l b xs zs, x = .ref l ∧ y = .ref b ∧ SqL K H l xs ∧ SqL K H b zs ∧ xs.length + zs.length ≤ sizeLine ∧ ∀ p, H p = none → Q (.ref p) (upd H p (.lst (xs ++ zs)))
theorem op_catQ : OpR X (binaryOp .Add) (rCatQ X.K) := by
  intro pins s σ H x y v u Q I rx ry h
  obtain ⟨l, b, xs, zs, rfl, rfl, hH, hB, hz, q⟩ := h
  cases rx
  cases ry
  obtain ⟨its, r, ⟨o, n, e, c, d0, d⟩, z⟩ := I.list hH
  obtain ⟨its2, r2, ⟨o2, n2, e2, c2, d02, d2⟩, z2⟩ := I.list hB
  have l1 := r.length
  have l2 := r2.length
  obtain ⟨oc, od, dt, sl⟩ := o
  obtain ⟨oc2, od2, dt2, sl2⟩ := o2
  simp only at c d0 d c2 d02 d2
  subst c d0 d c2 d02 d2
  have ea : its.toArray ++ its2.toArray = (its ++ its2).toArray := by simp
  refine concat_meets ⟨_, e, rfl⟩ ⟨_, e2, rfl⟩ noFill_list_add seq_list_add PySem.F.slot_list_add PySem.F.entry_list_add (PySem.F.args_list_add_2 _ _) (list_addW l b its.toArray its2.toArray n n2 none none sl sl2 (by rw [List.size_toArray, List.size_toArray, ← l1, ← l2]; exact hz)) ⟨e, e2, ?_⟩
  rw [ea]
  exact ⟨.ref _, _, I.lnew (t' := s.toks) (r.append r2) (by rw [List.length_append]; omega), rfl, q _ I.fresh⟩
theorem lift_cat : Lift2 X (rCatQ X.K) (fun d e M Q => ∃ ds es, LV M d ds ∧ LV M e es ∧ ds.length + es.length ≤ sizeLine ∧ Q (.lst (ds ++ es)) M) := fun k s S r1 r2 h => by
  obtain ⟨ds, es, h1, h2, hl, q⟩ := h
  obtain ⟨l, xs, rfl, q1, z1⟩ := S.readL r1 h1
  obtain ⟨l2, ys, rfl, q2, z2⟩ := S.readL r2 h2
  refine ⟨l, l2, xs, ys, rfl, rfl, q1, q2, by rw [z1.length, z2.length]; exact hl, fun p hp => k _ _ ?_⟩
  obtain ⟨S', s'⟩ := S.froz (o := .lst (xs ++ ys)) hp
  exact ret S' (s.trans s') (.lst (.of upd_same) ((z1.append z2).up s')) q
theorem lift_addS : Lift2 X (fun x y H Q => ∃ i j, x = .str i ∧ y = .str j ∧ i.length + j.length ≤ sizeLine ∧ Q (.str (i ++ j)) H) (fun d e M Q => ∃ i j, d = .str i ∧ e = .str j ∧ i.length + j.length ≤ sizeLine ∧ Q (.str (i ++ j)) M) := fun k s S r1 r2 h => by
  obtain ⟨i, j, rfl, rfl, hl, q⟩ := h
  cases r1; cases r2
  exact ⟨i, j, rfl, rfl, hl, k _ _ (ret S s (.str _) q)⟩
def RAdd : RD2 := fun d e M Q => (∃ i j, d = .int i ∧ e = .int j ∧ Q (.int (i + j)) M) ∨ (∃ i j, d = .str i ∧ e = .str j ∧ i.length + j.length ≤ sizeLine ∧ Q (.str (i ++ j)) M) ∨ (∃ ds es, LV M d ds ∧ LV M e es ∧ ds.length + es.length ≤ sizeLine ∧ Q (.lst (ds ++ es)) M)
theorem we_add {Q : D → Cells → Prop} (h : WE X P a δ M fun d M1 => WE X P b δ M1 fun e M2 => RAdd d e M2 Q) : WE X P (.BinOp a .Add b pos) δ M Q := we_op (op_add.or (op_add_str.or op_catQ)) (lift_I0.or (lift_addS.or lift_cat)) h
theorem we_sub {Q : D → Cells → Prop} (h : WE X P a δ M fun d M1 => WE X P b δ M1 fun e M2 => ∃ i j, d = .int i ∧ e = .int j ∧ Q (.int (i - j)) M2) : WE X P (.BinOp a .Sub b pos) δ M Q := we_op op_sub lift_I0 h
theorem op_mulQ : OpR X (binaryOp .Mult) (rI IntMulOk fun i j => .int (i * j)) := opI fun _ _ _ _ _ _ _ hc q => mul_int q hc
theorem we_mul {Q : D → Cells → Prop} (h : WE X P a δ M fun d M1 => WE X P b δ M1 fun e M2 => ∃ i j, d = .int i ∧ e = .int j ∧ IntMulOk i j ∧ Q (.int (i * j)) M2) : WE X P (.BinOp a .Mult b pos) δ M Q := we_op op_mulQ lift_I h
theorem we_fdiv {Q : D → Cells → Prop} (h : WE X P a δ M fun d M1 => WE X P b δ M1 fun e M2 => ∃ i j, d = .int i ∧ e = .int j ∧ CDivW i j ∧ Q (.int (i / j)) M2) : WE X P (.BinOp a .FloorDiv b pos) δ M Q := we_op op_fdivW lift_I h
theorem we_mod {Q : D → Cells → Prop} (h : WE X P a δ M fun d M1 => WE X P b δ M1 fun e M2 => ∃ i j, d = .int i ∧ e = .int j ∧ 0 < j ∧ Q (.int (i % j)) M2) : WE X P (.BinOp a .Mod b pos) δ M Q := we_op op_mod lift_I h
theorem we_modN {Q : D → Cells → Prop} (h : WE X P a δ M fun d M1 => WE X P b δ M1 fun e M2 => ∃ i j, d = .int i ∧ e = .int j ∧ j ≠ 0 ∧ Q (.int (i.fmod j)) M2) : WE X P (.BinOp a .Mod b pos) δ M Q := we_op op_modN lift_I h
def CPw (i j : Int) : Prop := 0 ≤ j ∧ (Builtin.Int.intBits i : Int) * j ≤ 2 ^ 27
theorem op_powQ : OpR X (binaryOp .Pow) (rI CPw fun i j => .int (i ^ j.toNat)) := opI fun _ _ _ _ _ _ _ hc q => pow_int hc.1 hc.2 q
theorem we_pow {Q : D → Cells → Prop} (h : WE X P a δ M fun d M1 => WE X P b δ M1 fun e M2 => ∃ i j, d = .int i ∧ e = .int j ∧ CPw i j ∧ Q (.int (i ^ j.toNat)) M2) : WE X P (.BinOp a .Pow b pos) δ M Q := we_op op_powQ lift_I h
theorem we_neg {Q : D → Cells → Prop} (h : WE X P a δ M fun d M1 => ∃ i, d = .int i ∧ Q (.int (-i)) M1) : WE X P (.UnaryOp .USub a pos) δ M Q := we_un (R := fun d M1 Q => ∃ i, d = .int i ∧ Q (.int (-i)) M1) un_neg (fun k s S r1 h => by
  obtain ⟨i, rfl, q⟩ := h
  cases r1
  exact ⟨i, rfl, k _ _ (ret S s (.int _) q)⟩) h

theorem we_lt {Q : D → Cells → Prop} (h : WE X P a δ M fun d M1 => WE X P b δ M1 fun e M2 => ∃ i j, d = .int i ∧ e = .int j ∧ Q (.bl (decide (i < j))) M2) : WE X P (.Compare a [.Lt] [b] pos) δ M Q := we_cmp op_lt lift_B0 (nomark _) h
theorem we_gt {Q : D → Cells → Prop} (h : WE X P a δ M fun d M1 => WE X P b δ M1 fun e M2 => ∃ i j, d = .int i ∧ e = .int j ∧ Q (.bl (decide (j < i))) M2) : WE X P (.Compare a [.Gt] [b] pos) δ M Q := we_cmp op_gt lift_B0 (nomark _) h
theorem wt_lt {Q : Bool → Cells → Prop} (h : WE X P a δ M fun d M1 => WE X P b δ M1 fun e M2 => ∃ i j, d = .int i ∧ e = .int j ∧ Q (decide (i < j)) M2) : WT X P (.Compare a [.Lt] [b] pos) δ M Q := wt_cmp op_lt lift_B0 (nomark _) (h.imp fun d M1 q => q.imp fun e M2 ⟨i, j, h1, h2, q⟩ => ⟨i, j, h1, h2, _, rfl, q⟩)
mutual
def py : D → PyData
  | .non => .none | .bl b => .bool b | .int i => .int i | .str x => .str x | .tup ds => .tuple (pys ds) | .lst ds => .list (pys ds) | .cel _ => .none | .raw _ => .none | .exc _ _ _ => .none
def pys : List D → List PyData
  | [] => []
  | d :: ds => py d :: pys ds
end
mutual
/-- no cell, nothing raw within -/
def okD : D → Bool
  | .tup ds => okDs ds | .lst ds => okDs ds | .cel _ => false | .raw _ => false | .exc _ _ _ => false | _ => true
def okDs : List D → Bool
  | [] => true
  | d :: ds => okD d && okDs ds
end
mutual
theorem Rep.dp {K : PySem.W.Frag} {F H : Hp} (s : Same F H) : ∀ (d : D) (v : V), Rep K F v d → okD d = true → Dp K H v (py d)
  | .non, _, h, _ => by cases h; exact .non
  | .bl _, _, h, _ => by cases h; exact .bl _
  | .int _, _, h, _ => by cases h; exact .int _
  | .str _, _, h, _ => by cases h; exact .str _
  | .tup ds, _, h, k => by cases h with | tup a b => exact .tup (Same.tup s a) (Reps.dp s ds _ b k)
  | .lst ds, _, h, k => by cases h with | lst a b => exact .lst (s.seq a) (Reps.dp s ds _ b k)
  | .cel _, _, _, k => by cases k
  | .raw _, _, _, k => by cases k
  | .exc _ _ _, _, _, k => by cases k
theorem Reps.dp {K : PySem.W.Frag} {F H : Hp} (s : Same F H) : ∀ (ds : List D) (vs : List V), Reps K F vs ds → okDs ds = true → DpAll K H vs (pys ds)
  | [], _, h, _ => by cases h; exact .nil
  | d :: ds, _, h, k => by
    cases h with
    | cons a b =>
      have k' : (okD d && okDs ds) = true := k
      rw [Bool.and_eq_true] at k'
      exact .cons (Rep.dp s d _ a k'.1) (Reps.dp s ds _ b k'.2)
end
/-- d is data, frozen or a cell of such -/
def PV (M : Cells) (d : D) (q : PyData) : Prop := (okD d = true ∧ q = py d) ∨ ∃ (k : Nat) (a : Addr) (ds : List D), d = .cel a ∧ M[k]? = some (a, .lst ds) ∧ okDs ds = true ∧ q = .list (pys ds)
theorem PV.fz {M : Cells} {d : D} (h : okD d = true) : PV M d (py d) := .inl ⟨h, rfl⟩
theorem PV.cl {M : Cells} {a : Addr} {ds : List D} (k : Nat) (h : M[k]? = some (a, .lst ds)) (g : okDs ds = true) : PV M (.cel a) (.list (pys ds)) := .inr ⟨k, a, ds, rfl, h, g, rfl⟩
theorem Stt.readP {K : PySem.W.Frag} (S : Stt K F M δ σ H) {v : V} {d : D} {q : PyData} (r : Rep K F v d) (h : PV M d q) : Dp K H v q := by
  rcases h with ⟨h, rfl⟩ | ⟨k, a, ds, rfl, h1, h2, rfl⟩
  · exact Rep.dp S.le d v r h
  · cases r
    obtain ⟨vs, e1, e2, e3⟩ := S.cellAt (List.mem_of_getElem? h1)
    exact .lst (.of e1) (Reps.dp S.le ds vs e3 h2)
theorem lift_eqD : Lift2 X (rEqD X.K) (fun d e M Q => ∃ p q, PV M d p ∧ PV M e q ∧ SeqAt.shaped p = true ∧ SeqAt.shaped q = true ∧ Q (.bl (PyData.eqv p q)) M) := fun k s S r1 r2 h => by
  obtain ⟨p, q, h1, h2, s1, s2, z⟩ := h
  exact ⟨p, q, S.readP r1 h1, S.readP r2 h2, s1, s2, k _ _ (ret S s (.bl _) z)⟩
theorem lift_neD : Lift2 X (rNeD X.K) (fun d e M Q => ∃ p q, PV M d p ∧ PV M e q ∧ SeqAt.shaped p = true ∧ SeqAt.shaped q = true ∧ Q (.bl (!PyData.eqv p q)) M) := fun k s S r1 r2 h => by
  obtain ⟨p, q, h1, h2, s1, s2, z⟩ := h
  exact ⟨p, q, S.readP r1 h1, S.readP r2 h2, s1, s2, k _ _ (ret S s (.bl _) z)⟩
def dOf : V → D
  | .non => .non | .bl b => .bl b | .int i => .int i | .str x => .str x | v => .raw v
theorem scal_rep {K : PySem.W.Frag} {v : V} {d : D} (x : V) (r : Rep K F v d) (h : d = dOf x) : v = x := by
  subst h
  cases x <;> (cases r; rfl)
/-- == of scalars: both ints, both texts, both bools, one of them None -/
def RScal (neg : Bool) : RD2 := fun d e M Q => ∃ x y : V, d = dOf x ∧ e = dOf y ∧ scal x y = true ∧ Q (.bl (if neg then !decide (x = y) else decide (x = y))) M
theorem lift_eqS : Lift2 X rEq (RScal false) := fun k s S r1 r2 h => by
  obtain ⟨x, y, h1, h2, h3, q⟩ := h
  rw [scal_rep x r1 h1, scal_rep y r2 h2]
  exact ⟨h3, k _ _ (ret S s (.bl _) q)⟩
theorem lift_neS : Lift2 X rNe (RScal true) := fun k s S r1 r2 h => by
  obtain ⟨x, y, h1, h2, h3, q⟩ := h
  rw [scal_rep x r1 h1, scal_rep y r2 h2]
  exact ⟨h3, k _ _ (ret S s (.bl _) q)⟩
/-- is None, is not None -/
def isNonD : D → Bool | .non => true | _ => false
theorem lift_notN : Lift2 X (fun x y H Q => y = .non ∧ Q (.bl (!decide (x = .non))) H) (fun d e M Q => e = .non ∧ (∀ v, d ≠ .raw v) ∧ Q (.bl (!isNonD d)) M) := fun k s S r1 r2 h => by
  obtain ⟨rfl, hr, q⟩ := h
  cases r2
  refine ⟨rfl, k _ _ ?_⟩
  cases r1 <;> first
    | exact ret S s (.bl _) q
    | exact absurd rfl (hr _)
theorem wt_notN {j pos'} {Q : Bool → Cells → Prop} (h : WE X P a δ M fun d M1 => (∀ v, d ≠ .raw v) ∧ Q (!isNonD d) M1) : WT X P (.Compare a [.IsNot] [.Constant .none j pos'] pos) δ M Q := wt_cmp op_notN lift_notN (nomark _) (h.imp fun d M1 q => we_non ⟨rfl, q.1, _, rfl, q.2⟩)

theorem reps_at {K : PySem.W.Frag} {vs : List V} {ds : List D} {i : Int} {d : D} (r : Reps K F vs ds) (h : atI ds i = some d) : ∃ v, atI vs i = some v ∧ Rep K F v d := by
  unfold atI at h ⊢
  rw [r.length]
  cases e : ixN ds.length i with
  | none => rw [e] at h; cases h
  | some j =>
    rw [e] at h
    exact r.get h
theorem lift_ixL : Lift2 X (rIxL X.K) (fun d e M Q => ∃ ds i z, LV M d ds ∧ e = .int i ∧ atI ds i = some z ∧ Q z M) := fun k s S r1 r2 h => by
  obtain ⟨ds, i, z, h1, rfl, h2, q⟩ := h
  cases r2
  obtain ⟨l, xs, rfl, q1, z1⟩ := S.readL r1 h1
  obtain ⟨v, e1, e2⟩ := reps_at z1 h2
  exact ⟨l, xs, i, v, rfl, rfl, q1, e1, k _ _ (ret S s e2 q)⟩
theorem lift_ixT : Lift2 X (rIxT X.K) (fun d e M Q => ∃ ds i z, d = .tup ds ∧ e = .int i ∧ atI ds i = some z ∧ Q z M) := fun k s S r1 r2 h => by
  obtain ⟨ds, i, z, rfl, rfl, h2, q⟩ := h
  cases r2
  obtain ⟨l, xs, rfl, q1, z1⟩ := S.readT r1
  obtain ⟨v, e1, e2⟩ := reps_at z1 h2
  exact ⟨l, xs, i, v, rfl, rfl, q1, e1, k _ _ (ret S s e2 q)⟩
theorem lift_ixS : Lift2 X rIxS (fun d e M Q => ∃ z i c, d = .str z ∧ e = .int i ∧ z.length ≤ sizeLine ∧ atI z.cps.toList i = some c ∧ Q (.str ⟨#[c]⟩) M) := fun k s S r1 r2 h => by
  obtain ⟨z, i, c, rfl, rfl, h1, h2, q⟩ := h
  cases r1; cases r2
  exact ⟨z, i, c, rfl, rfl, h1, h2, k _ _ (ret S s (.str _) q)⟩
def cutD (xs : List D) (lo hi : Option Int) : List D := (xs.drop (HT.sIx xs.length 0 lo)).take (HT.sIx xs.length xs.length hi - HT.sIx xs.length 0 lo)
theorem reps_cut {K : PySem.W.Frag} {vs : List V} {ds : List D} (r : Reps K F vs ds) (lo hi : Option Int) : Reps K F (cutV vs lo hi) (cutD ds lo hi) := by
  unfold cutV cutD
  rw [r.length]
  exact (r.drop _).take _
def tO (X : Cx) (e : Option Expr) : L2.TO := fun σ H Q => ∀ pins s, Inv X pins σ H s → wpAny (model X.prog X.w) X.A (evalPart e X.env) (fun u s' => ∃ o H', Inv X pins σ H' s' ∧ IsPart u o ∧ Q o H') X.xe s
theorem po_sem {X : Cx} {e : Option Expr} : PO X e (tO X e) := ⟨fun pins s _ _ _ I h => h pins s I⟩
def upO (K : PySem.W.Frag) (F : Hp) (δ : Slots) (σ : L2.St) (Q : Option Int → Cells → Prop) : Option Int → Hp → Prop := fun b H' => ∃ F' M', Same F F' ∧ Stt K F' M' δ σ H' ∧ Q b M'
def WO (X : Cx) (P : XP) (e : Option Expr) (δ : Slots) (M : Cells) (Q : Option Int → Cells → Prop) : Prop := ∀ σ H F, Go X P F M δ σ H → tO X e σ H (upO X.K F δ σ Q)
theorem wo_none {Q : Option Int → Cells → Prop} (h : Q none M) : WO X P none δ M Q := fun σ H F G pins s I => po_none.run pins s σ H _ I ⟨F, M, Same.refl _, G.st, h⟩
theorem wo_some {Q : Option Int → Cells → Prop} (h : WE X P e δ M fun d M1 => ∃ i, d = .int i ∧ Q (some i) M1) : WO X P (some e) δ M Q := fun σ H F G pins s I => (po_some pe_sem).run pins s σ H _ I (h.go G fun v H1 F1 M1 d s1 G1 r1 q1 => by
  obtain ⟨i, rfl, q⟩ := q1
  cases r1
  exact ⟨i, rfl, F1, M1, s1, G1.st, q⟩)
theorem tO.mono {e : Option Expr} {Q Q' : Option Int → Hp → Prop} (h : tO X e σ H Q) (k : ∀ v H', Q v H' → Q' v H') : tO X e σ H Q' := fun pins s I => thn (h pins s I) fun _ _ ⟨o, H', I', p, q⟩ => ⟨o, H', I', p, k _ _ q⟩
theorem we_callB {x : Str} {id : String} {r : List V → Hp → VK → Prop} {R : RDA} {Q : D → Cells → Prop} (hc : CallR X (.builtin id) r) (L : LiftA X r R) (hg : Gl X x) (hm : X.mg x = none) (hv : bootBuiltins x = some (.builtin id)) (h : WA X P (e :: es) δ M fun ds M1 => R ds M1 Q) (hn : x ≠ "__name__" := by decide) (hdb : (x == ("__debug__" : Str)) = false := by decide)
    (he : starEach (e :: es) X.env = (false, eval e X.env) :: starEach es X.env := by rfl) (hpl : (backTo pos (starEach es X.env)).any (·.1) = false := by rfl) : WE X P (.Call (.Name x p) (e :: es) [] pos) δ M Q :=
  we_of (pe_callB hc hg hm hv pa_sem hn hdb he hpl) fun σ H F G => h.go G fun vs H1 F1 M1 ds s1 G1 r1 q1 => L (fun _ _ z => z) s1 G1.st r1 q1
theorem we_callTy {x : Str} {T : String} {r : List V → Hp → VK → Prop} {R : RDA} {Q : D → Cells → Prop} (hc : CallR X (.type T) r) (L : LiftA X r R) (hg : Gl X x) (hm : X.mg x = none) (hv : bootBuiltins x = some (.type T)) (h : WA X P (e :: es) δ M fun ds M1 => R ds M1 Q) (hn : x ≠ "__name__" := by decide) (hdb : (x == ("__debug__" : Str)) = false := by decide)
    (he : starEach (e :: es) X.env = (false, eval e X.env) :: starEach es X.env := by rfl) (hpl : (backTo pos (starEach es X.env)).any (·.1) = false := by rfl) : WE X P (.Call (.Name x p) (e :: es) [] pos) δ M Q :=
  we_of (pe_callTy hc hg hm hv pa_sem hn hdb he hpl) fun σ H F G => h.go G fun vs H1 F1 M1 ds s1 G1 r1 q1 => L (fun _ _ z => z) s1 G1.st r1 q1
theorem Reps.one {K : PySem.W.Frag} {vs : List V} {d : D} (h : Reps K F vs [d]) : ∃ v, vs = [v] ∧ Rep K F v d := by
  cases h with | cons a b => cases b; exact ⟨_, rfl, a⟩
theorem Reps.two {K : PySem.W.Frag} {vs : List V} {d e : D} (h : Reps K F vs [d, e]) : ∃ v w, vs = [v, w] ∧ Rep K F v d ∧ Rep K F w e := by
  cases h with | cons a b => cases b with | cons b c => cases c; exact ⟨_, _, rfl, a, b⟩
def RLen : RDA := fun ds M Q => (∃ d xs, ds = [d] ∧ LV M d xs ∧ Q (.int xs.length) M) ∨ (∃ xs, ds = [.tup xs] ∧ Q (.int xs.length) M) ∨ (∃ z, ds = [.str z] ∧ z.length ≤ sizeLine ∧ Q (.int z.length) M)
theorem lift_len : LiftA X (fun xs H Q => ∃ x n, xs = [x] ∧ LenV X.K x H n ∧ Q (.int n) H) RLen := fun k s S r h => by
  rcases h with ⟨d, xs, rfl, hl, q⟩ | ⟨xs, rfl, q⟩ | ⟨z, rfl, hl, q⟩
  · obtain ⟨v, rfl, r1⟩ := r.one
    obtain ⟨a, vs, rfl, e1, e2⟩ := S.readL r1 hl
    exact ⟨_, vs.length, rfl, .inl ⟨vs, e1, rfl⟩, k _ _ (ret S s (by rw [e2.length]; exact .int _) q)⟩
  · obtain ⟨v, rfl, r1⟩ := r.one
    obtain ⟨a, vs, rfl, e1, e2⟩ := S.readT r1
    exact ⟨_, vs.length, rfl, .inr ⟨vs, e1, rfl⟩, k _ _ (ret S s (by rw [e2.length]; exact .int _) q)⟩
  · obtain ⟨v, rfl, r1⟩ := r.one
    cases r1
    exact ⟨_, z.length, rfl, ⟨hl, rfl⟩, k _ _ (ret S s (.int _) q)⟩
theorem we_len {Q : D → Cells → Prop} (hg : Gl X "len") (hm : X.mg "len" = none) (h : WA X P [e] δ M fun ds M1 => RLen ds M1 Q) (he : starEach [e] X.env = (false, eval e X.env) :: starEach [] X.env := by rfl) (hpl : (backTo pos (starEach [] X.env)).any (·.1) = false := by rfl) : WE X P (.Call (.Name "len" p) [e] [] pos) δ M Q :=
  we_callB call_len lift_len hg hm (by decide +kernel) h (by decide) (by decide) he hpl
theorem we_abs {Q : D → Cells → Prop} (hg : Gl X "abs") (hm : X.mg "abs" = none) (h : WA X P [e] δ M fun ds M1 => ∃ i, ds = [.int i] ∧ Q (.int (if i < 0 then -i else i)) M1) (he : starEach [e] X.env = (false, eval e X.env) :: starEach [] X.env := by rfl) (hpl : (backTo pos (starEach [] X.env)).any (·.1) = false := by rfl) : WE X P (.Call (.Name "abs" p) [e] [] pos) δ M Q :=
  we_callB (R := fun ds M1 Q => ∃ i, ds = [.int i] ∧ Q (.int (if i < 0 then -i else i)) M1) call_abs (fun k s S r h => by
    obtain ⟨i, rfl, q⟩ := h
    obtain ⟨v, rfl, r1⟩ := r.one
    cases r1
    exact ⟨i, rfl, k _ _ (ret S s (.int _) q)⟩) hg hm (by decide +kernel) h (by decide) (by decide) he hpl
theorem we_all {Q : D → Cells → Prop} (hc : X.calm = true) (hg : Gl X "all") (hm : X.mg "all" = none) (h : WA X P [a] δ M fun ds M1 => ∃ (d : D) (bs : List Bool), ds = [d] ∧ LV M1 d (bs.map D.bl) ∧ Q (.bl (bs.all id)) M1) (he : starEach [a] X.env = (false, eval a X.env) :: starEach [] X.env := by rfl) (hpl : (backTo pos (starEach [] X.env)).any (·.1) = false := by rfl) : WE X P (.Call (.Name "all" p) [a] [] pos) δ M Q :=
  we_callB (R := fun ds M1 Q => ∃ (d : D) (bs : List Bool), ds = [d] ∧ LV M1 d (bs.map D.bl) ∧ Q (.bl (bs.all id)) M1) (cr_all hc) (fun k s S r h => by
    obtain ⟨d, bs, rfl, hl, q⟩ := h
    obtain ⟨v, rfl, r1⟩ := r.one
    obtain ⟨a, vs, rfl, e1, e2⟩ := S.readL r1 hl
    rw [e2.bls_inv] at e1
    exact ⟨a, bs, rfl, e1, k _ _ (ret S s (.bl _) q)⟩) hg hm (by decide +kernel) h (by decide) (by decide) he hpl
theorem Stt.readLT {K : PySem.W.Frag} (S : Stt K F M δ σ H) {v : V} {d : D} {xs : List D} (r : Rep K F v d) (h : LV M d xs ∨ d = .tup xs) : ∃ a vs, v = .ref a ∧ (SqL K H a vs ∨ SqT K H a vs) ∧ Reps K F vs xs := by
  rcases h with hl | rfl
  · obtain ⟨a, vs, rfl, e1, e2⟩ := S.readL r hl; exact ⟨a, vs, rfl, .inl e1, e2⟩
  · obtain ⟨a, vs, rfl, e1, e2⟩ := S.readT r; exact ⟨a, vs, rfl, .inr e1, e2⟩
/-- list(xs), frozen -/
theorem we_list {Q : D → Cells → Prop} (hg : Gl X "list") (hm : X.mg "list" = none) (h : WA X P [a] δ M fun ds M1 => ∃ d xs, ds = [d] ∧ (LV M1 d xs ∨ d = .tup xs) ∧ Q (.lst xs) M1) (he : starEach [a] X.env = (false, eval a X.env) :: starEach [] X.env := by rfl) (hpl : (backTo pos (starEach [] X.env)).any (·.1) = false := by rfl) : WE X P (.Call (.Name "list" p) [a] [] pos) δ M Q :=
  we_callTy (R := fun ds M1 Q => ∃ d xs, ds = [d] ∧ (LV M1 d xs ∨ d = .tup xs) ∧ Q (.lst xs) M1) call_list_of (fun k s S r h => by
    obtain ⟨d, xs, rfl, hl, q⟩ := h
    obtain ⟨v, rfl, r1⟩ := r.one
    obtain ⟨a, vs, rfl, e1, e2⟩ := S.readLT r1 hl
    refine ⟨a, vs, rfl, e1, fun l hl => k _ _ ?_⟩
    obtain ⟨S', s'⟩ := S.froz (o := .lst vs) hl
    exact ret S' (s.trans s') (.lst (.of upd_same) (e2.up s')) q) hg hm (by decide +kernel) h (by decide) (by decide) he hpl
theorem we_listC {Q : D → Cells → Prop} (hg : Gl X "list") (hm : X.mg "list" = none) (h : WA X P [a] δ M fun ds M1 => ∃ d xs, ds = [d] ∧ (LV M1 d xs ∨ d = .tup xs) ∧ ∀ p, Q (.cel p) ((p, .lst xs) :: M1)) (he : starEach [a] X.env = (false, eval a X.env) :: starEach [] X.env := by rfl) (hpl : (backTo pos (starEach [] X.env)).any (·.1) = false := by rfl) : WE X P (.Call (.Name "list" p) [a] [] pos) δ M Q :=
  we_callTy (R := fun ds M1 Q => ∃ d xs, ds = [d] ∧ (LV M1 d xs ∨ d = .tup xs) ∧ ∀ p, Q (.cel p) ((p, .lst xs) :: M1)) call_list_of (fun k s S r h => by
    obtain ⟨d, xs, rfl, hl, q⟩ := h
    obtain ⟨v, rfl, r1⟩ := r.one
    obtain ⟨a, vs, rfl, e1, e2⟩ := S.readLT r1 hl
    exact ⟨a, vs, rfl, e1, fun l hl => k _ _ (ret (S.newL hl e2) s (.cel l) (q l))⟩) hg hm (by decide +kernel) h (by decide) (by decide) he hpl
def isT (t n : String) : Bool := t == n || (t == "bool" && n == "int")
def TyA (M : Cells) (d : D) (t : String) : Prop := match d with
  | .non => t = "NoneType" | .bl _ => t = "bool" | .int _ => t = "int" | .str _ => t = "str" | .tup _ => t = "tuple" | .lst _ => t = "list" | .cel a => t = "list" ∧ ∃ (k : Nat) (ds : List D), M[k]? = some (a, .lst ds) | .raw _ => False | .exc _ _ _ => False
theorem kitT {K : PySem.W.Frag} {t n : String} (ht : t ∈ ["NoneType", "bool", "int", "str", "tuple", "list"]) (hn : n ∈ ["bool", "int", "str", "tuple", "list", "dict"]) : PySem.W.kitOne K (.type t) (.type n) = some (isT t n) := by
  simp only [List.mem_cons, List.not_mem_nil, or_false] at ht hn
  rcases ht with rfl | rfl | rfl | rfl | rfl | rfl <;> rcases hn with rfl | rfl | rfl | rfl | rfl | rfl <;> exact kit_ty (by decide +kernel)
theorem Stt.ty {K : PySem.W.Frag} (S : Stt K F M δ σ H) {v : V} {d : D} {t : String} (r : Rep K F v d) (h : TyA M d t) : TyX K H v (.type t) ∧ t ∈ ["NoneType", "bool", "int", "str", "tuple", "list"] := by
  cases d with
  | non => cases r; cases (show t = _ from h); exact ⟨.base .non, by simp⟩
  | bl b => cases r; cases (show t = _ from h); exact ⟨.base (.bl b), by simp⟩
  | int i => cases r; cases (show t = _ from h); exact ⟨.base (.int i), by simp⟩
  | str x => cases r; cases (show t = _ from h); exact ⟨.base (.str x), by simp⟩
  | tup ds =>
    cases (show t = _ from h)
    obtain ⟨a, vs, rfl, e1, e2⟩ := S.readT r
    refine ⟨?_, by simp⟩
    rcases e1 with (e1 | ⟨o, e1⟩) | ⟨o, its, n, e1, e3, _⟩
    · exact .base (.tup e1)
    · exact .fTuple e1
    · exact .kTuple e1 e3
  | lst ds =>
    cases (show t = _ from h)
    obtain ⟨a, vs, rfl, e1, e2⟩ := S.readL r LV.l
    refine ⟨?_, by simp⟩
    rcases e1 with (e1 | ⟨o, e1⟩) | ⟨o, its, n, e1, e3, _⟩
    · exact .base (.lst e1)
    · exact .base (.frz e1)
    · exact .kList e1 e3
  | cel a =>
    obtain ⟨rfl, k, ds, hk⟩ := (show t = "list" ∧ ∃ (k : Nat) (ds : List D), M[k]? = some (a, .lst ds) from h)
    obtain ⟨a, vs, rfl, e1, e2⟩ := S.readL r (LV.c k hk)
    refine ⟨?_, by simp⟩
    rcases e1 with (e1 | ⟨o, e1⟩) | ⟨o, its, n, e1, e3, _⟩
    · exact .base (.lst e1)
    · exact .base (.frz e1)
    · exact .kList e1 e3
  | raw v => exact (show False from h).elim
  | exc _ _ _ => exact (show False from h).elim
def rIsiTQ (K : PySem.W.Frag) : List V → Hp → VK → Prop := fun xs H Q => ∃ (x : V) (tp : Addr) (cs : List V) (t : Value) (us : List Value) (b : Bool), xs = [x, .ref tp] ∧ SqT K H tp cs ∧ Paired ClsV cs us ∧ TyX K H x t ∧ PySem.W.kitAny K t us = some b ∧ Q (.bl b) H
theorem call_isiTQ : CallR X (.builtin "isinstance") (rIsiTQ X.K) := by
  intro pins s σ H xs us Q I r h
  obtain ⟨x, tp, cs, t, ws, b, rfl, hT, k, ty, e, q⟩ := h
  obtain ⟨u1, u2, rfl, r1, r2⟩ := vals2 r
  cases (show u2 = Value.ref tp from r2)
  obtain ⟨P, Z, p, hx⟩ := kit_of I r1 ty
  obtain ⟨its, rv, ⟨o, h1, h2, n, h3⟩, _⟩ := I.tuple hT
  have e3 := ClsV.all k rv
  subst e3
  obtain ⟨oc, od, dt, sl⟩ := o
  simp only at h2 h3
  subst h2 h3
  exact PySem.W.kia_tup Z I.kIn p h1 e hx fun tk => ⟨.bl b, H, I.tok tk, rfl, q⟩
def RIsi : RDA := fun ds M Q => ∃ d t n, ds = [d, .raw (.ty n)] ∧ TyA M d t ∧ n ∈ ["bool", "int", "str", "tuple", "list", "dict"] ∧ Q (.bl (isT t n)) M
theorem lift_isi : LiftA X (rIsi X.K) RIsi := fun k s S r h => by
  obtain ⟨d, t, n, rfl, ht, hn, q⟩ := h
  obtain ⟨v, w, rfl, r1, r2⟩ := r.two
  cases r2
  obtain ⟨ty, hm⟩ := S.ty r1 ht
  exact ⟨v, .ty n, .type t, .type n, isT t n, rfl, .ty n, ty, kitT hm hn, k _ _ (ret S s (.bl _) q)⟩
def RIsiT : RDA := fun ds M Q => ∃ d t n m, ds = [d, .tup [.raw (.ty n), .raw (.ty m)]] ∧ TyA M d t ∧ n ∈ ["bool", "int", "str", "tuple", "list", "dict"] ∧ m ∈ ["bool", "int", "str", "tuple", "list", "dict"] ∧ Q (.bl (isT t n || isT t m)) M
theorem lift_isiT : LiftA X (rIsiTQ X.K) RIsiT := fun k s S r h => by
  obtain ⟨d, t, n, m, rfl, ht, hn, hm, q⟩ := h
  obtain ⟨v, w, rfl, r1, r2⟩ := r.two
  obtain ⟨a, vs, rfl, e1, e2⟩ := S.readT r2
  obtain ⟨y, z, rfl, q1, q2⟩ := e2.two
  cases q1; cases q2
  obtain ⟨ty, hmm⟩ := S.ty r1 ht
  refine ⟨v, a, [.ty n, .ty m], .type t, [.type n, .type m], isT t n || isT t m, rfl, e1, .cons (.ty n) (.cons (.ty m) .nil), ty, ?_, k _ _ (ret S s (.bl _) q)⟩
  refine kitAny_cons (kitT hmm hn) (fun e => ?_) (fun e => by rw [e]; rfl)
  rw [e, Bool.false_or]
  exact kitAny_cons (kitT hmm hm) (fun e => by rw [e]; exact kitAny_nil) (fun e => e)
theorem we_isi {Q : D → Cells → Prop} (hg : Gl X "isinstance") (hm : X.mg "isinstance" = none) (h : WA X P [a, b] δ M fun ds M1 => RIsi ds M1 Q ∨ RIsiT ds M1 Q) (he : starEach [a, b] X.env = (false, eval a X.env) :: starEach [b] X.env := by rfl) (hpl : (backTo pos (starEach [b] X.env)).any (·.1) = false := by rfl) : WE X P (.Call (.Name "isinstance" p) [a, b] [] pos) δ M Q :=
  we_callB (call_isi.or call_isiTQ) (lift_isi.or lift_isiT) hg hm (by decide +kernel) h (by decide) (by decide) he hpl
end
end PW
/-! PW4 -/
namespace PW
open PySem L2 PyProof.Rows

structure Nice (X : Cx) : Prop where
  calm : X.calm = true
  nd : X.N.Nodup
  own : PassesOwn (model X.prog X.w) X.A X.env X.xe

structure En where
  nx : Slots → Cells → Prop
  rt : D → Cells → Prop
  bk : Slots → Cells → Prop := fun _ _ => False
  ct : Slots → Cells → Prop := fun _ _ => False
def upN (K : PySem.W.Frag) (F : Hp) (Q : Slots → Cells → Prop) : L2.St → Hp → Prop := fun σ' H' => ∃ F' M' δ', Same F F' ∧ Stt K F' M' δ' σ' H' ∧ Q δ' M'
def upR (K : PySem.W.Frag) (F : Hp) (Q : D → Cells → Prop) : VK := fun v H' => ∃ F' M' δ' σ' d, Same F F' ∧ Stt K F' M' δ' σ' H' ∧ Rep K F' v d ∧ Q d M'
def upEn (K : PySem.W.Frag) (F : Hp) (E : En) : L2.Ends := ⟨upN K F E.nx, upR K F E.rt, upN K F E.bk, upN K F E.ct⟩
theorem upN.base {K : PySem.W.Frag} {F F' : Hp} (s : Same F F') {Q : Slots → Cells → Prop} {σ : L2.St} {H : Hp} (h : upN K F' Q σ H) : upN K F Q σ H := let ⟨F2, M2, d2, s2, r⟩ := h; ⟨F2, M2, d2, s.trans s2, r⟩
theorem upR.base {K : PySem.W.Frag} {F F' : Hp} (s : Same F F') {Q : D → Cells → Prop} {v : V} {H : Hp} (h : upR K F' Q v H) : upR K F Q v H := let ⟨F2, M2, d2, σ2, e2, s2, r⟩ := h; ⟨F2, M2, d2, σ2, e2, s.trans s2, r⟩
def tS (X : Cx) (st : Stmt) : TS := fun D σ H => ∀ pins s, Inv X pins σ H s → wpAny (model X.prog X.w) X.A (exec st X.env) (SP X pins D) X.xe s
def tB (X : Cx) (b : List Stmt) : TS := fun D σ H => ∀ pins s, Inv X pins σ H s → wpAny (model X.prog X.w) X.A (execs b X.env) (SP X pins D) X.xe s
def tG (X : Cx) (tg : Expr) : TG := fun v σ H Q => ∀ pins s u, Inv X pins σ H s → RelV v u → wpAny (model X.prog X.w) X.A (assign tg X.env u) (fun _ s' => ∃ σ' H', Inv X pins σ' H' s' ∧ Q σ' H') X.xe s
theorem ps_sem {X : Cx} {st : Stmt} : PS X st (tS X st) := ⟨fun pins s _ _ _ I h => h pins s I⟩
theorem pss_sem {X : Cx} {st : List Stmt} : PSs X st (tB X st) := ⟨fun pins s _ _ _ I h => h pins s I⟩
theorem pg_sem {X : Cx} {tg : Expr} : PG X tg (tG X tg) := ⟨fun pins s _ _ _ u _ I r h => h pins s u I r⟩
def WS (X : Cx) (P : XP) (st : Stmt) (δ : Slots) (M : Cells) (E : En) : Prop := ∀ σ H F, Go X P F M δ σ H → tS X st (upEn X.K F E) σ H
def WB (X : Cx) (P : XP) (b : List Stmt) (δ : Slots) (M : Cells) (E : En) : Prop := ∀ σ H F, Go X P F M δ σ H → tB X b (upEn X.K F E) σ H
def WG (X : Cx) (P : XP) (tg : Expr) (d : D) (δ : Slots) (M : Cells) (Q : Slots → Cells → Prop) : Prop := ∀ σ H F v, Go X P F M δ σ H → Rep X.K F v d → tG X tg v σ H (upN X.K F Q)
structure EnLe (D D' : L2.Ends) : Prop where
  nx : ∀ σ H, D.nx σ H → D'.nx σ H
  rt : ∀ v H, D.rt v H → D'.rt v H
  bk : ∀ σ H, D.bk σ H → D'.bk σ H
  ct : ∀ σ H, D.ct σ H → D'.ct σ H
theorem SP.mono {X : Cx} {pins : List (Addr × Obj)} {D D' : L2.Ends} (l : EnLe D D') {f : Flow} {s : Shared} (h : SP X pins D f s) : SP X pins D' f s := by
  cases f with
  | next => obtain ⟨σ', H', I, q⟩ := h; exact ⟨σ', H', I, l.nx _ _ q⟩
  | brk => obtain ⟨σ', H', I, q⟩ := h; exact ⟨σ', H', I, l.bk _ _ q⟩
  | cont => obtain ⟨σ', H', I, q⟩ := h; exact ⟨σ', H', I, l.ct _ _ q⟩
  | ret u => obtain ⟨v, σ', H', I, r, q⟩ := h; exact ⟨v, σ', H', I, r, l.rt _ _ q⟩
section
variable {X : Cx} {P : XP} {F : Hp} {M : Cells} {δ : Slots} {σ : L2.St} {H : Hp} {e a b c o : Expr} {es : List Expr} {pos apos p p2 : Pos} {st : Stmt} {rest body orelse : List Stmt} {E : En}
theorem tS.mono {D D' : L2.Ends} (h : tS X st D σ H) (l : EnLe D D') : tS X st D' σ H := fun pins s I => thn (h pins s I) fun _ _ q => SP.mono l q
theorem tB.mono {D D' : L2.Ends} (h : tB X body D σ H) (l : EnLe D D') : tB X body D' σ H := fun pins s I => thn (h pins s I) fun _ _ q => SP.mono l q
theorem tG.mono {tg : Expr} {v : V} {Q Q' : L2.St → Hp → Prop} (h : tG X tg v σ H Q) (k : ∀ σ H, Q σ H → Q' σ H) : tG X tg v σ H Q' := fun pins s u I r => thn (h pins s u I r) fun _ _ ⟨σ', H', I', q⟩ => ⟨σ', H', I', k _ _ q⟩
theorem enle_base {K : PySem.W.Frag} {F F' : Hp} (s : Same F F') (E : En) : EnLe (upEn K F' E) (upEn K F E) := ⟨fun _ _ h => upN.base s h, fun _ _ h => upR.base s h, fun _ _ h => upN.base s h, fun _ _ h => upN.base s h⟩
/-- go on behind a change of the frozen base -/
theorem WB.go {F' : Hp} {M' : Cells} {δ' : Slots} {σ' : L2.St} {H' : Hp} (h : WB X P body δ' M' E) (G : Go X P F' M' δ' σ' H') (s : Same F F') : tB X body (upEn X.K F E) σ' H' := (h σ' H' F' G).mono (enle_base s E)
theorem ws_of {t : TS} (p : PS X st t) (h : ∀ σ H F, Go X P F M δ σ H → t (upEn X.K F E) σ H) : WS X P st δ M E := fun σ H F G pins s I => p.run pins s σ H _ I (h σ H F G)
theorem nx_ {Q : Slots → Cells → Prop} {F0 : Hp} {K : PySem.W.Frag} (S : Stt K F M δ σ H) (s : Same F0 F) (q : Q δ M) : upN K F0 Q σ H := ⟨F, M, δ, s, S, q⟩

theorem wb_nil (h : E.nx δ M) : WB X P [] δ M E := fun σ H F G pins s I => pss_nil.run pins s σ H (upEn X.K F E) I (nx_ G.st (Same.refl _) h)
theorem wb_cons (h : WS X P st δ M { E with nx := fun δ' M' => WB X P rest δ' M' E }) : WB X P (st :: rest) δ M E := fun σ H F G pins s I =>
  (pss_cons ps_sem pss_sem).run pins s σ H (upEn X.K F E) I ((h σ H F G).mono ⟨fun σ' H' ⟨F', M', δ', s', S', q⟩ => q.go ⟨S', G.tk.up s'⟩ s', fun _ _ h => h, fun _ _ h => h, fun _ _ h => h⟩)
theorem wb_one (h : WS X P st δ M E) : WB X P [st] δ M E := fun σ H F G pins s I => (pss_one ps_sem).run pins s σ H (upEn X.K F E) I (h σ H F G)
theorem ws_expr (h : WE X P e δ M fun _ M' => E.nx δ M') (hs : swapsWith e none pos.line X.env = pure false := by rfl) : WS X P (.Expr e pos) δ M E := ws_of (ps_expr pe_sem hs) fun σ H F G => h.go G fun v H' F' M' d s G' r q => nx_ G'.st s q
theorem ws_ret (h : WE X P e δ M E.rt) : WS X P (.Return (some e) pos) δ M E := ws_of (ps_ret pe_sem) fun σ H F G => h.go G fun v H' F' M' d s G' r q => ⟨F', M', δ, σ, d, s, G'.st, r, q⟩
theorem ws_retN (h : E.rt .non M) : WS X P (.Return none pos) δ M E := ws_of ps_retN fun σ H F G => ⟨F, M, δ, σ, .non, Same.refl _, G.st, .non, h⟩
theorem ws_if (h : WT X P c δ M fun k M' => if k = true then WB X P body δ M' E else WB X P orelse δ M' E) : WS X P (.If c body orelse pos) δ M E :=
  ws_of (ps_if pt_sem pss_sem pss_sem) fun σ H F G => h.go G fun k H' F' M' s G' q => by
    cases k with
    | true => rw [if_pos rfl] at q ⊢; exact q.go G' s
    | false => rw [if_neg (by decide)] at q ⊢; exact q.go G' s
theorem ws_set {i : Nat} {x : Str} {pos' : Pos} (N : Nice X) (hi : X.N[i]? = some x) (hx : Loc X.env.scope x) (h : WE X P e δ M fun d M' => E.nx (δ.set i (some d)) M') (hs : swapsWith e (some (.Name x pos')) pos.line X.env = pure false := by rfl) (hf : X.fn x = true ∨ X.env.scope.names.lookup x = some .local := by first | exact .inl rfl | exact .inr rfl | assumption) : WS X P (.Assign [.Name x pos'] e pos) δ M E :=
  ws_of (ps_set N.nd hi hx pe_sem hs hf) fun σ H F G => h.go G fun v H' F' M' d s G' r q => nx_ (G'.st.setSlot r) s q
theorem wg_of {tg : Expr} {t : TG} {d : D} {Q : Slots → Cells → Prop} (p : PG X tg t) (h : ∀ σ H F v, Go X P F M δ σ H → Rep X.K F v d → t v σ H (upN X.K F Q)) : WG X P tg d δ M Q := fun σ H F v G r pins s u I ru => p.run pins s σ H v u _ I ru (h σ H F v G r)
theorem wg_name {i : Nat} {x : Str} {d : D} {Q : Slots → Cells → Prop} (N : Nice X) (hi : X.N[i]? = some x) (hx : Loc X.env.scope x) (h : Q (δ.set i (some d)) M) (hf : X.fn x = true ∨ X.env.scope.names.lookup x = some .local := by first | exact .inl rfl | exact .inr rfl | assumption) : WG X P (.Name x pos) d δ M Q :=
  wg_of (pg_name N.nd hi hx hf) fun σ H F v G r => nx_ (G.st.setSlot r) (Same.refl _) h
theorem wg_sub {d : D} {Q : Slots → Cells → Prop} (h : WE X P o δ M fun x M1 => WE X P a δ M1 fun y M2 => ∃ k q ds z j, x = .cel q ∧ M2[k]? = some (q, .lst ds) ∧ y = .int z ∧ ixN ds.length z = some j ∧ Q δ (M2.set k (q, .lst (ds.set j d))))
    (ha : ∀ v, assign (.Subscript o a pos) X.env v = (do
      let ov ← holding [v] (eval o X.env)
      let iv ← holding [v, ov] (eval a X.env)
      standAt pos
      holding [v, ov, iv] (setItem ov iv v)
      release [v, ov, iv] []) := by intro _; rfl) : WG X P (.Subscript o a pos) d δ M Q :=
  wg_of (pg_sub pe_sem pe_sem set_list ha) fun σ H F v G r => h.go G fun ov H1 F1 M1 x s1 G1 r1 q1 => q1.go G1 fun iv H2 F2 M2 y s2 G2 r2 q2 => by
    obtain ⟨k, q, ds, z, j, rfl, hk, rfl, hj, hq⟩ := q2
    cases r1; cases r2
    obtain ⟨vs, e1, e2, e3⟩ := G2.st.cellAt (List.mem_of_getElem? hk)
    refine ⟨q, vs, z, j, rfl, rfl, e1, by rw [e3.length]; exact hj, ?_⟩
    exact nx_ (G2.st.setCell (c' := .lst (ds.set j d)) hk ⟨vs.set j v, upd_same, e3.set j (r.up (s1.trans s2))⟩) (s1.trans s2) hq
theorem ws_asg {tg : Expr} (h : WE X P e δ M fun d M' => WG X P tg d δ M' E.nx) (hs : swapsWithSole [tg] e pos.line X.env = pure false := by rfl) (hw : swappedStores [tg] e X.env = pure none := by rfl)
    (h1 : (assignEach [tg] X.env).map (·.2) = [assign tg X.env] := by rfl) : WS X P (.Assign [tg] e pos) δ M E :=
  ws_of (ps_asg pe_sem pg_sem hs hw h1) fun σ H F G => h.go G fun v H' F' M' d s G' r q => (q σ H' F' v G' r).mono fun _ _ z => upN.base s z
theorem ws_par3 {i j l : Nat} {x y z : Str} {px py pz pt : Pos} {kt k2 pt2} (N : Nice X) (hi : X.N[i]? = some x) (hj : X.N[j]? = some y) (hl : X.N[l]? = some z) (hij : i ≠ j) (hil : i ≠ l) (hjl : j ≠ l) (hx : X.env.scope.names.lookup x = some .local) (hy : X.env.scope.names.lookup y = some .local) (hz : X.env.scope.names.lookup z = some .local)
    (hw : swappedStores [.Tuple [.Name x px, .Name y py, .Name z pz] kt pt] (.Tuple [a, b, c] k2 pt2) X.env = pure (some [x, y, z])) (h : WA X P [a, b, c] δ M fun ds M' => ∃ d1 d2 d3, ds = [d1, d2, d3] ∧ E.nx (((δ.set i (some d1)).set j (some d2)).set l (some d3)) M')
    (hs : swapsWithSole [.Tuple [.Name x px, .Name y py, .Name z pz] kt pt] (.Tuple [a, b, c] k2 pt2) pos.line X.env = pure false := by rfl) : WS X P (.Assign [.Tuple [.Name x px, .Name y py, .Name z pz] kt pt] (.Tuple [a, b, c] k2 pt2) pos) δ M E :=
  ws_of (ps_par3 N.calm N.nd hi hj hl hij hil hjl hx hy hz pa_sem hw hs) fun σ H F G => h.go G fun vs H' F' M' ds s G' r q => by
    obtain ⟨d1, d2, d3, rfl, q⟩ := q
    cases r with
    | cons r1 r =>
      obtain ⟨v, w, rfl, r2, r3⟩ := r.two
      exact ⟨_, v, w, rfl, nx_ (((G'.st.setSlot r1).setSlot r2).setSlot r3) s q⟩
/-- what an iterator walks: the items, and while what it goes on -/
def WalkP (K : PySem.W.Frag) (J : It) (F : Hp) (ds : List D) (Sb : Cells → Prop) : Prop :=
  ∀ (F' : Hp) (M' : Cells) (δ' : Slots) (σ' : L2.St) (H' : Hp), Same F F' → Stt K F' M' δ' σ' H' → Sb M' →
    (∀ i, i < ds.length → J.go i H') ∧ J.stop ds.length H' ∧ ∀ i x H2, i < ds.length → J.yld i H' x H2 → ∃ F2 d, Same F' F2 ∧ Stt K F2 M' δ' σ' H2 ∧ ds[i]? = some d ∧ Rep K F2 x d
def tI (X : Cx) (tg e : Expr) : TI := fun σ H R => ∀ pins s, Inv X pins σ H s → wpAny (model X.prog X.w) X.A (eval e X.env) (fun v s1 => wpAny (model X.prog X.w) X.A (pyIter v) (PIE X pins σ tg R) X.xe s1) X.xe s
theorem pi_sem {tg : Expr} : PI X tg e (tI X tg e) := ⟨fun pins s _ _ _ I h => h pins s I⟩
def upI (K : PySem.W.Frag) (F : Hp) (δ : Slots) (σ : L2.St) (R : List D → (Cells → Prop) → Cells → Prop) : It → Hp → Prop := fun J H' => ∃ F' M' ds Sb, Same F F' ∧ Stt K F' M' δ σ H' ∧ WalkP K J F' ds Sb ∧ R ds Sb M'
def WI (X : Cx) (P : XP) (tg e : Expr) (δ : Slots) (M : Cells) (R : List D → (Cells → Prop) → Cells → Prop) : Prop := ∀ σ H F, Go X P F M δ σ H → tI X tg e σ H (upI X.K F δ σ R)
theorem tI.mono {tg : Expr} {R R' : It → Hp → Prop} (h : tI X tg e σ H R) (k : ∀ J H, R J H → R' J H) : tI X tg e σ H R' := fun pins s I => thn (h pins s I) fun _ _ q => thn q fun _ _ ⟨it, fp, tn, J, H', e1, I', T, t0, f, r⟩ => ⟨it, fp, tn, J, H', e1, I', T, t0, f, k _ _ r⟩
theorem wi_of {tg : Expr} {t : TI} {R : List D → (Cells → Prop) → Cells → Prop} (p : PI X tg e t) (h : ∀ σ H F, Go X P F M δ σ H → t σ H (upI X.K F δ σ R)) : WI X P tg e δ M R := fun σ H F G pins s I => p.run pins s σ H _ I (h σ H F G)
theorem ws_for {tg iter : Expr} (N : Nice X) (h : WI X P tg iter δ M fun ds Sb M1 => ∃ I : Nat → Slots → Cells → Prop, I 0 δ M1 ∧ (∀ i δ' M', i ≤ ds.length → I i δ' M' → Sb M') ∧
      (∀ i d δ' M', ds[i]? = some d → I i δ' M' → WG X P tg d δ' M' fun δ2 M2 => WB X P body δ2 M2 { E with nx := I (i + 1), ct := I (i + 1), bk := E.nx }) ∧ (∀ δ' M', I ds.length δ' M' → E.nx δ' M'))
    (hs : ∀ x, foldedSetIterable iter X.env x = pure x := by intro _; rfl) : WS X P (.For tg iter body [] pos) δ M E :=
  ws_of (ps_for N.own N.calm pi_sem pg_sem pss_sem hs) fun σ H F G => (h σ H F G).mono fun J H1 ⟨F1, M1, ds, Sb, s1, S1, wk, I, i0, iS, iT, iE⟩ => by
    refine ⟨fun i n σ' H' => n = ds.length - i ∧ i ≤ ds.length ∧ ∃ F' M' δ', Same F1 F' ∧ Stt X.K F' M' δ' σ' H' ∧ I i δ' M', ⟨ds.length, by simp, Nat.zero_le _, F1, M1, δ, Same.refl _, S1, i0⟩, ?_⟩
    rintro i n σ2 H2 ⟨rfl, hi, F2, M2, δ2, s2, S2, i2⟩
    obtain ⟨wg, ws, wy⟩ := wk F2 M2 δ2 σ2 H2 s2 S2 (iS i δ2 M2 hi i2)
    by_cases hlt : i < ds.length
    · refine .inr ⟨wg i hlt, upN X.K F1 (I (i + 1)), fun σ3 H3 ⟨F3, M3, δ3, s3, S3, i3⟩ => ⟨ds.length - (i + 1), by omega, rfl, hlt, F3, M3, δ3, s3, S3, i3⟩, fun x H3 y => ?_⟩
      obtain ⟨F3, d, s3, S3, hd, r3⟩ := wy i x H3 hlt y
      have s13 := (s2.trans s3)
      refine (iT i d δ2 M2 hd i2 σ2 H3 F3 x ⟨S3, G.tk.up (s1.trans s13)⟩ r3).mono fun σ4 H4 ⟨F4, M4, δ4, s4, S4, q4⟩ => ?_
      have s14 := s13.trans s4
      refine (q4 σ4 H4 F4 ⟨S4, G.tk.up (s1.trans s14)⟩).mono ⟨fun _ _ q => upN.base s14 q, fun _ _ q => upR.base (s1.trans s14) q, fun _ _ q => upN.base (s1.trans s14) q, fun _ _ q => upN.base s14 q⟩
    · have e : i = ds.length := by omega
      subst e
      exact .inl ⟨ws, nx_ S2 (s1.trans s2) (iE δ2 M2 i2)⟩

theorem walkP_of {K : PySem.W.Frag} {J : It} {n : Nat} {G : Hp → Prop} {Y : Nat → Hp → V → Hp → Prop} (w : L2.Walk J n G Y) {ds : List D} {Sb : Cells → Prop} (hn : ds.length = n) (hG : ∀ (F' : Hp) (M' : Cells) (δ' : Slots) (σ' : L2.St) (H' : Hp), Same F F' → Stt K F' M' δ' σ' H' → Sb M' → G H')
    (hY : ∀ (F' : Hp) (M' : Cells) (δ' : Slots) (σ' : L2.St) (H' : Hp) i x H2, i < n → Same F F' → Stt K F' M' δ' σ' H' → Y i H' x H2 → ∃ F2 d, Same F' F2 ∧ Stt K F2 M' δ' σ' H2 ∧ ds[i]? = some d ∧ Rep K F2 x d) : WalkP K J F ds Sb := by
  intro F' M' δ' σ' H' s S q
  have g := hG F' M' δ' σ' H' s S q
  subst hn
  exact ⟨fun i hi => w.goes i H' hi g, w.stops H' g, fun i x H2 hi y => hY F' M' δ' σ' H' i x H2 hi s S (w.yields i H' x H2 hi g y)⟩
theorem wi_list {tg : Expr} {R : List D → (Cells → Prop) → Cells → Prop} (h : WE X P e δ M fun d M1 => ∃ ds, LV M1 d ds ∧ R ds (fun M' => LV M' d ds) M1) : WI X P tg e δ M R :=
  wi_of (pi_list pe_sem) fun σ H F G => h.go G fun v H1 F1 M1 d s1 G1 r1 ⟨ds, hl, q⟩ => by
    obtain ⟨a, vs, rfl, e1, e2⟩ := G1.st.readL r1 hl
    refine ⟨a, rfl, ⟨vs, e1⟩, F1, M1, ds, _, s1, G1.st, ?_, q⟩
    intro F' M' δ' σ' H' s S hM
    obtain ⟨a', xs, ea, f1, f2⟩ := S.readL (r1.up s) hM
    cases ea
    have w := walk_list (K := X.K) (a := a) (xs := xs)
    refine ⟨fun i hi => w.goes i H' (by rw [f2.length]; exact hi) f1, by rw [← f2.length]; exact w.stops H' f1, fun i x H2 hi y => ?_⟩
    obtain ⟨rfl, y2⟩ := w.yields i H' x H2 (by rw [f2.length]; exact hi) f1 y
    obtain ⟨d', h1, h2⟩ := f2.get' y2
    exact ⟨F', d', Same.refl _, S, h1, h2⟩
/-- lo, lo + 1, .. -/
def rangeD (lo : Int) (n : Nat) : List D := (List.range n).map fun i => D.int (lo + (i : Nat))
theorem rangeD_len (lo : Int) (n : Nat) : (rangeD lo n).length = n := by simp [rangeD]
theorem rangeD_get {lo : Int} {n i : Nat} (h : i < n) : (rangeD lo n)[i]? = some (.int (lo + (i : Nat))) := by simp [rangeD, h]
theorem rangeD_inv {lo : Int} {n i : Nat} {d : D} (h : (rangeD lo n)[i]? = some d) : i < n ∧ d = .int (lo + (i : Nat)) := by
  have hi : i < n := by have := (List.getElem?_eq_some_iff.mp h).1; rwa [rangeD_len] at this
  rw [rangeD_get hi] at h
  exact ⟨hi, (Option.some.inj h).symm⟩
theorem walkP_range {K : PySem.W.Frag} {lo : Int} {n : Nat} : WalkP K (Itr lo n) F (rangeD lo n) (fun _ => True) :=
  walkP_of walk_range (rangeD_len lo n) (fun _ _ _ _ _ _ _ _ => trivial) fun F' M' δ' σ' H' i x H2 hi s S y => by
    obtain ⟨rfl, rfl⟩ := y
    exact ⟨F', _, Same.refl _, S, rangeD_get hi, .int _⟩
theorem wi_range1 {tg : Expr} {R : List D → (Cells → Prop) → Cells → Prop} (hg : Gl X "range") (hm : X.mg "range" = none) (h : WA X P [a] δ M fun ds M1 => ∃ j : Int, ds = [.int j] ∧ -(2 ^ 62) ≤ j ∧ j < 2 ^ 62 ∧ R (rangeD 0 j.toNat) (fun _ => True) M1) (hs : starEach [a] X.env = [(false, eval a X.env)] := by rfl) : WI X P tg (.Call (.Name "range" p) [a] [] pos) δ M R :=
  wi_of (pi_range1 hg hm pa_sem hs) fun σ H F G => h.go G fun vs H1 F1 M1 ds s1 G1 r1 ⟨j, e, h1, h2, q⟩ => by
    subst e
    obtain ⟨v, rfl, r⟩ := r1.one
    cases r
    exact ⟨j, rfl, h1, h2, F1, M1, _, _, s1, G1.st, walkP_range, q⟩
end
end PW
/-! PW5 -/
namespace PW
open PySem L2 PyProof.Rows

def wipeD (δ : Slots) : List Nat → Slots
  | [] => δ
  | v :: vs => (wipeD δ vs).set v none
theorem wipeD_length (δ : Slots) : ∀ vs : List Nat, (wipeD δ vs).length = δ.length
  | [] => rfl
  | v :: vs => by unfold wipeD; rw [List.length_set, wipeD_length δ vs]
theorem wipeD_some {δ : Slots} {i : Nat} {x : D} : ∀ {vs : List Nat}, (wipeD δ vs)[i]? = some (some x) → δ[i]? = some (some x) ∧ i ∉ vs
  | [], h => ⟨h, by simp⟩
  | v :: vs, h => by
    unfold wipeD at h
    rcases getElem?_set_cases h with ⟨_, e⟩ | ⟨h1, h2⟩
    · cases e
    · obtain ⟨h3, h4⟩ := wipeD_some h2
      exact ⟨h3, by simp only [List.mem_cons, not_or]; exact ⟨h1, h4⟩⟩
theorem Stt.wipe {K : PySem.W.Frag} {F : Hp} {M : Cells} {δ : Slots} {σ : L2.St} {H : Hp} (S : Stt K F M δ σ H) (vs : List Nat) : Stt K F M (wipeD δ vs) (L2.wipe σ vs) H :=
  S.slots (by rw [wipeD_length, L2.wipe_length]; exact S.dlen) fun i d h => by
    obtain ⟨h1, h2⟩ := wipeD_some h
    obtain ⟨v, e1, e2⟩ := S.slot i d h1
    exact ⟨v, by rw [L2.wipe_out h2]; exact e1, e2⟩
/-- the context of a comprehension's block -/
structure BK where
  s0 : Shared
  H0 : Hp
  C : Addr
  cl : List (Str × Addr)
  fp : List Addr
abbrev Bx (X : Cx) (scope : Scope) (b : BK) : Cx := X.blk b.s0 b.H0 scope (compEnvC scope b.cl b.C X.env) b.fp
theorem Reps.three {K : PySem.W.Frag} {F : Hp} {vs : List V} {d e f : D} (h : Reps K F vs [d, e, f]) : ∃ v w u, vs = [v, w, u] ∧ Rep K F v d ∧ Rep K F w e ∧ Rep K F u f := by
  cases h with
  | cons a b =>
    obtain ⟨w, u, rfl, r1, r2⟩ := b.two
    exact ⟨_, w, u, rfl, a, r1, r2⟩
/-- how a target binds the item in the block's slots: one name, two names -/
inductive Tg (X : Cx) (scope : Scope) : Expr → List (Str × Nat) → (D → Slots → Slots → Prop) → TG → Prop
  | one {x : Str} {i : Nat} {pos : Pos} (hi : X.N[i]? = some x) (hx : scope.names.lookup x = some .local) : Tg X scope (.Name x pos) [(x, i)] (fun d δ δ' => δ' = δ.set i (some d)) (gName i)
  | two {x y : Str} {i j : Nat} {px py pos : Pos} {kk : Nat} (hi : X.N[i]? = some x) (hj : X.N[j]? = some y) (hij : i ≠ j) (hx : scope.names.lookup x = some .local) (hy : scope.names.lookup y = some .local) :
      Tg X scope (.Tuple [.Name x px, .Name y py] kk pos) [(x, i), (y, j)] (fun d δ δ' => ∃ d1 d2, d = .tup [d1, d2] ∧ δ' = (δ.set i (some d1)).set j (some d2)) (gTup X.K 2 (gCons (gName i) (gCons (gName j) gNil)))
  | three {x y z : Str} {i j k : Nat} {px py pz pos : Pos} {kk : Nat} (hi : X.N[i]? = some x) (hj : X.N[j]? = some y) (hk : X.N[k]? = some z) (hne : i ≠ j ∧ i ≠ k ∧ j ≠ k) (hx : scope.names.lookup x = some .local) (hy : scope.names.lookup y = some .local) (hz : scope.names.lookup z = some .local) :
      Tg X scope (.Tuple [.Name x px, .Name y py, .Name z pz] kk pos) [(x, i), (y, j), (z, k)] (fun d δ δ' => ∃ d1 d2 d3, d = .tup [d1, d2, d3] ∧ δ' = ((δ.set i (some d1)).set j (some d2)).set k (some d3)) (gTup X.K 3 (gCons (gName i) (gCons (gName j) (gCons (gName k) gNil))))
  | four {x y z u : Str} {i j k l : Nat} {px py pz pu pa pb pos : Pos} {kk ka kb : Nat} (hi : X.N[i]? = some x) (hj : X.N[j]? = some y) (hk : X.N[k]? = some z) (hl : X.N[l]? = some u) (hne : i ≠ j ∧ i ≠ k ∧ i ≠ l ∧ j ≠ k ∧ j ≠ l ∧ k ≠ l)
      (hx : scope.names.lookup x = some .local) (hy : scope.names.lookup y = some .local) (hz : scope.names.lookup z = some .local) (hu : scope.names.lookup u = some .local) :
      Tg X scope (.Tuple [.Tuple [.Name x px, .Name y py] ka pa, .Tuple [.Name z pz, .Name u pu] kb pb] kk pos) [(x, i), (y, j), (z, k), (u, l)] (fun d δ δ' => ∃ d1 d2 d3 d4, d = .tup [.tup [d1, d2], .tup [d3, d4]] ∧ δ' = (((δ.set i (some d1)).set j (some d2)).set k (some d3)).set l (some d4))
      (gTup X.K 2 (gCons (gTup X.K 2 (gCons (gName i) (gCons (gName j) gNil))) (gCons (gTup X.K 2 (gCons (gName k) (gCons (gName l) gNil))) gNil)))
section
variable {X : Cx} {P : XP} {F : Hp} {M : Cells} {δ : Slots} {σ : L2.St} {H : Hp} {e a b c o elt iter tg : Expr} {es ifs : List Expr} {pos apos cpos p p2 : Pos} {scope : Scope} {own : List (Str × Nat)} {bind : D → Slots → Slots → Prop} {g : TG}
theorem blk_loc {scope : Scope} {x : Str} {cl : List (Str × Addr)} {C : Addr} {env : Env} (hx : scope.names.lookup x = some .local) : (compEnvC scope cl C env).scope.names.lookup x = some .local := lookup_relabel_local hx
theorem Tg.pg (N : Nice X) (T : Tg X scope tg own bind g) (s : Shared) (H : Hp) (C : Addr) (cl : List (Str × Addr)) (fp : List Addr) : PG (X.blk s H scope (compEnvC scope cl C X.env) fp) tg g := by
  cases T with
  | one hi hx => exact pg_name N.nd hi (.inl (blk_loc hx)) (.inr (blk_loc hx))
  | two hi hj hij hx hy => exact pg_tup N.calm (pgs_cons (pg_name N.nd hi (.inl (blk_loc hx)) (.inr (blk_loc hx))) (pgs_cons (pg_name N.nd hj (.inl (blk_loc hy)) (.inr (blk_loc hy))) pgs_nil))
  | three hi hj hk hne hx hy hz => exact pg_tup N.calm (pgs_cons (pg_name N.nd hi (.inl (blk_loc hx)) (.inr (blk_loc hx))) (pgs_cons (pg_name N.nd hj (.inl (blk_loc hy)) (.inr (blk_loc hy))) (pgs_cons (pg_name N.nd hk (.inl (blk_loc hz)) (.inr (blk_loc hz))) pgs_nil)))
  | four hi hj hk hl hne hx hy hz hu => exact pg_tup N.calm (pgs_cons (pg_tup N.calm (pgs_cons (pg_name N.nd hi (.inl (blk_loc hx)) (.inr (blk_loc hx))) (pgs_cons (pg_name N.nd hj (.inl (blk_loc hy)) (.inr (blk_loc hy))) pgs_nil)))
      (pgs_cons (pg_tup N.calm (pgs_cons (pg_name N.nd hk (.inl (blk_loc hz)) (.inr (blk_loc hz))) (pgs_cons (pg_name N.nd hl (.inl (blk_loc hu)) (.inr (blk_loc hu))) pgs_nil))) pgs_nil))
theorem Tg.run {d : D} {δ' : Slots} {x : V} (T : Tg X scope tg own bind g) (S : Stt X.K F M δ σ H) (r : Rep X.K F x d) (hb : bind d (wipeD δ (own.map (·.2))) δ') {K' : L2.St → Hp → Prop}
    (k : ∀ σ', Stt X.K F M δ' σ' H → L2.wipe σ' (own.map (·.2)) = L2.wipe σ (own.map (·.2)) → K' σ' H) : g x (L2.wipe σ (own.map (·.2))) H K' := by
  cases T with
  | @one y i _ hi hx =>
    subst hb
    refine k _ ((S.wipe [i]).setSlot r) ?_
    show ((σ.set i none).set i (some x)).set i none = σ.set i none
    rw [List.set_set, List.set_set]
  | @two y z i j _ _ _ _ hi hj hij hx hy =>
    obtain ⟨d1, d2, rfl, rfl⟩ := hb
    obtain ⟨a, vs, rfl, e1, e2⟩ := S.readT r
    obtain ⟨v, w, rfl, r1, r2⟩ := e2.two
    refine ⟨a, [v, w], rfl, e1, rfl, v, [w], rfl, w, [], rfl, rfl, k _ (((S.wipe [i, j]).setSlot r1).setSlot r2) ?_⟩
    show (((((σ.set j none).set i none).set i (some v)).set j (some w)).set j none).set i none = (σ.set j none).set i none
    rw [List.set_set, List.set_set, List.set_comm _ _ hij, List.set_set, List.set_set, List.set_comm _ _ (Ne.symm hij)]
  | @three y z u2 i j k4 _ _ _ _ _ hi hj hk hne hx hy hz =>
    obtain ⟨d1, d2, d3, rfl, rfl⟩ := hb
    obtain ⟨a, vs, rfl, e1, e2⟩ := S.readT r
    obtain ⟨v, w, u, rfl, r1, r2, r3⟩ := e2.three
    refine ⟨a, [v, w, u], rfl, e1, rfl, v, [w, u], rfl, w, [u], rfl, u, [], rfl, rfl, k _ ((((S.wipe [i, j, k4]).setSlot r1).setSlot r2).setSlot r3) ?_⟩
    refine List.ext_getElem? fun n => ?_
    show (((((((((σ.set k4 none).set j none).set i none).set i (some v)).set j (some w)).set k4 (some u)).set k4 none).set j none).set i none)[n]? = (((σ.set k4 none).set j none).set i none)[n]?
    simp only [List.getElem?_set, List.length_set]
    by_cases a1 : i = n <;> by_cases a2 : j = n <;> by_cases a3 : k4 = n <;> simp [a1, a2, a3]
  | @four y z u2 u3 i j k4 l4 _ _ _ _ _ _ _ _ _ _ hi hj hk hl hne hx hy hz hu =>
    obtain ⟨d1, d2, d3, d4, rfl, rfl⟩ := hb
    obtain ⟨a, vs, rfl, e1, e2⟩ := S.readT r
    obtain ⟨v, w, rfl, r1, r2⟩ := e2.two
    obtain ⟨a1, vs1, rfl, e11, e12⟩ := S.readT r1
    obtain ⟨a2, vs2, rfl, e21, e22⟩ := S.readT r2
    obtain ⟨v1, w1, rfl, r11, r12⟩ := e12.two
    obtain ⟨v2, w2, rfl, r21, r22⟩ := e22.two
    refine ⟨a, [_, _], rfl, e1, rfl, _, [_], rfl, a1, [v1, w1], rfl, e11, rfl, v1, [w1], rfl, w1, [], rfl, rfl, _, [], rfl, a2, [v2, w2], rfl, e21, rfl, v2, [w2], rfl, w2, [], rfl, rfl, rfl, k _ (((((S.wipe [i, j, k4, l4]).setSlot r11).setSlot r12).setSlot r21).setSlot r22) ?_⟩
    refine List.ext_getElem? fun n => ?_
    show ((((((((((((σ.set l4 none).set k4 none).set j none).set i none).set i (some v1)).set j (some w1)).set k4 (some v2)).set l4 (some w2)).set l4 none).set k4 none).set j none).set i none)[n]? = ((((σ.set l4 none).set k4 none).set j none).set i none)[n]?
    simp only [List.getElem?_set, List.length_set]
    by_cases a1 : i = n <;> by_cases a2 : j = n <;> by_cases a3 : k4 = n <;> by_cases a4 : l4 = n <;> simp [a1, a2, a3, a4]
/-- a block's tests -/
def Tt (K : PySem.W.Frag) (tt : TT) (δ : Slots) (M : Cells) (Q : Bool → Cells → Prop) : Prop := ∀ σ H F (Q' : Bool → Hp → Prop), Stt K F M δ σ H → (∀ k H', upT K F δ σ Q k H' → Q' k H') → tt σ H Q'
/-- a list comprehension with one for, as an expression or as what a name is set to -/
def LC (X : Cx) (P : XP) (elt tg iter : Expr) (ifs : List Expr) (scope : Scope) (δ : Slots) (M : Cells) (Q : D → Cells → Prop) : Prop :=
  ∃ (own : List (Str × Nat)) (g : TG) (tt : TT) (te : TE), BlkOk X.N X.env.scope scope own ∧ (∀ (s : Shared) (H : Hp) (C : Addr) (cl : List (Str × Addr)) (fp : List Addr), PG (X.blk s H scope (compEnvC scope cl C X.env) fp) tg g) ∧
    (∀ (s : Shared) (H : Hp) (C : Addr) (cl : List (Str × Addr)) (fp : List Addr), PTs (X.blk s H scope (compEnvC scope cl C X.env) fp) ifs tt) ∧ (∀ (s : Shared) (H : Hp) (C : Addr) (cl : List (Str × Addr)) (fp : List Addr), PE (X.blk s H scope (compEnvC scope cl C X.env) fp) elt te) ∧
    (∀ x, foldedSetIterable iter X.env x = pure x) ∧ ∀ σ H F (Q' : VK), Go X P F M δ σ H → (∀ v H', upE X.K F δ σ Q v H' → Q' v H') → tLc (tI X tg iter) g tt te (own.map (·.2)) σ H Q'
theorem we_ofLC {Q : D → Cells → Prop} (N : Nice X) (h : LC X P elt tg iter ifs scope δ M Q) : WE X P (.ListComp elt [⟨tg, iter, ifs, 0⟩] scope pos) δ M Q := by
  obtain ⟨own, g, tt, te, ok, pg, pts, pe, hs, r⟩ := h
  exact we_of (pe_lc N.calm N.nd pi_sem ok pg pts pe hs) fun σ H F G => r σ H F _ G fun _ _ z => z
/-- name = [..] on one line, the name a local -/
theorem ws_setLC {E : En} {i : Nat} {y : Str} {py spos : Pos} (N : Nice X) (hi : X.N[i]? = some y) (hyl : X.env.scope.names.lookup y = some .local) (h : LC X P elt tg iter ifs scope δ M fun d M' => E.nx (δ.set i (some d)) M')
    (hk : X.env.scope.kind = .function := by rfl) (hl : (py.line == pos.line) = true := by rfl) (ha : (scope.names.any fun (n, k) => n == y && (k == .local || k == .cell)) = false := by rfl) :
    WS X P (.Assign [.Name y py] (.ListComp elt [⟨tg, iter, ifs, 0⟩] scope pos) spos) δ M E := by
  obtain ⟨own, g, tt, te, ok, pg, pts, pe, hs, r⟩ := h
  exact ws_of (ps_setLc N.calm N.nd hi hyl (sw_true hk hyl hl ha) pi_sem ok pg pts pe hs) fun σ H F G => r σ H F _ G fun v H' ⟨F', M', d, s, S, rr, q⟩ => nx_ (S.setSlot rr) s q
theorem lc_froz (k : Nat) {Q : D → Cells → Prop} (h : LC X P elt tg iter ifs scope δ M fun d M1 => ∃ (p : Addr) (ds : List D), d = .cel p ∧ M1[k]? = some (p, .lst ds) ∧ Q (.lst ds) (M1.eraseIdx k)) : LC X P elt tg iter ifs scope δ M Q := by
  obtain ⟨own, g, tt, te, ok, pg, pts, pe, hs, r⟩ := h
  refine ⟨own, g, tt, te, ok, pg, pts, pe, hs, fun σ H F Q' G k' => r σ H F Q' G fun v H' ⟨F1, M1, d, s1, S1, r1, p, ds, e, hk, q⟩ => ?_⟩
  subst e
  cases r1
  obtain ⟨F2, s2, S2, r2⟩ := S1.freeze hk
  exact k' _ _ (ret S2 (s1.trans s2) r2 q)
theorem lc_main (N : Nice X) (T : Tg X scope tg own bind g) (ok : BlkOk X.N X.env.scope scope own) {tt : TT} (ht : ∀ (s : Shared) (H : Hp) (C : Addr) (cl : List (Str × Addr)) (fp : List Addr), PTs (X.blk s H scope (compEnvC scope cl C X.env) fp) ifs tt) {Q : D → Cells → Prop}
    (h : WI X P tg iter δ M fun ds Sb M1 => ∃ J : Nat → List D → Cells → Prop, J 0 [] M1 ∧ (∀ i acc M' p, i ≤ ds.length → J i acc M' → Sb ((p, .lst acc) :: M')) ∧
      (∀ i d acc M' p, ds[i]? = some d → J i acc M' → ∃ δ', bind d (wipeD δ (own.map (·.2))) δ' ∧ Tt X.K tt δ' ((p, .lst acc) :: M') fun k M2 =>
        if k = true then ∀ B : BK, WE (Bx X scope B) PX0 elt δ' M2 fun y M3 => ∃ acc' M4, M3 = (p, .lst acc') :: M4 ∧ acc'.length < sizeLine ∧ J (i + 1) (acc' ++ [y]) M4
        else ∃ acc' M4, M2 = (p, .lst acc') :: M4 ∧ J (i + 1) acc' M4) ∧
      ∀ acc M' p, J ds.length acc M' → Q (.cel p) ((p, .lst acc) :: M'))
    (hs : ∀ x, foldedSetIterable iter X.env x = pure x) : LC X P elt tg iter ifs scope δ M Q := by
  refine ⟨own, g, tt, fun σ H Q => ∀ B : BK, tE (Bx X scope B) elt σ H Q, ok, T.pg N, ht, fun s H C cl fp => ⟨fun pins s' σ H' Q I h => h ⟨s, H, C, cl, fp⟩ pins s' I⟩, hs, fun σ H F Q' G kq => ?_⟩
  refine (h σ H F G).mono fun J H1 ⟨F1, M1, ds, Sb, s1, S1, wk, Jv, j0, jS, jT, jE⟩ => fun D hD => ?_
  refine ⟨fun i m H' => m = ds.length - i ∧ i ≤ ds.length ∧ ∃ F' M' acc, Same F1 F' ∧ Stt X.K F' ((D, .lst acc) :: M') δ σ H' ∧ Jv i acc M', ⟨ds.length, by simp, Nat.zero_le _, F1, M1, [], Same.refl _, S1.newL hD .nil, j0⟩, ?_⟩
  rintro i m H2 ⟨rfl, hi, F2, M2, acc, s2, S2, j2⟩
  obtain ⟨wg, ws, wy⟩ := wk F2 _ δ σ H2 s2 S2 (jS i acc M2 D hi j2)
  by_cases hlt : i < ds.length
  · refine .inr ⟨wg i hlt, fun H' => ∃ F' M' acc', Same F1 F' ∧ Stt X.K F' ((D, .lst acc') :: M') δ σ H' ∧ Jv (i + 1) acc' M', fun H' ⟨F', M', acc', s', S', j'⟩ => ⟨ds.length - (i + 1), by omega, rfl, hlt, F', M', acc', s', S', j'⟩, fun x H3 y => ?_⟩
    obtain ⟨F3, d, s3, S3, hd, r3⟩ := wy i x H3 hlt y
    obtain ⟨δ', hb, hT⟩ := jT i d acc M2 D hd j2
    refine T.run S3 r3 hb fun σ' S' ew => ⟨ew, hT σ' H3 F3 _ S' fun k H4 ⟨F4, M4, s4, S4, q4⟩ => ?_⟩
    have s14 : Same F1 F4 := (s2.trans s3).trans s4
    cases k with
    | false =>
      rw [if_neg (by decide)] at q4 ⊢
      obtain ⟨acc', M5, rfl, j5⟩ := q4
      exact ⟨F4, M5, acc', s14, S4.keep S1 s14, j5⟩
    | true =>
      rw [if_pos rfl] at q4 ⊢
      intro B
      refine (q4 B).go ⟨S4, TakesP.none⟩ fun yv H5 F5 M5 yd s5 G5 r5 q5 => ?_
      obtain ⟨acc', M6, rfl, hl, j6⟩ := q5
      obtain ⟨vs, e1, e2, e3⟩ := G5.st.cellAt (List.Mem.head _)
      have S6 := G5.st.setCell (k := 0) (c' := .lst (acc' ++ [yd])) rfl ⟨vs ++ [yv], upd_same, e3.append (.cons r5 .nil)⟩
      exact ⟨vs, e1, by rw [e3.length]; exact hl, F5, M6, acc' ++ [yd], s14.trans s5, Stt.keep (K := X.K) S6 S1 (s14.trans s5), j6⟩
  · have e : i = ds.length := by omega
    subst e
    exact .inl ⟨ws, kq _ _ (ret S2 (s1.trans s2) (.cel D) (jE acc M2 D j2))⟩
/-- no test -/
theorem lc_lc (N : Nice X) (T : Tg X scope tg own bind g) (ok : BlkOk X.N X.env.scope scope own) {Q : D → Cells → Prop}
    (h : WI X P tg iter δ M fun ds Sb M1 => ∃ J : Nat → List D → Cells → Prop, J 0 [] M1 ∧ (∀ i acc M' p, i ≤ ds.length → J i acc M' → Sb ((p, .lst acc) :: M')) ∧
      (∀ i d acc M' p, ds[i]? = some d → J i acc M' → ∃ δ', bind d (wipeD δ (own.map (·.2))) δ' ∧ ∀ B : BK, WE (Bx X scope B) PX0 elt δ' ((p, .lst acc) :: M') fun y M3 => ∃ acc' M4, M3 = (p, .lst acc') :: M4 ∧ acc'.length < sizeLine ∧ J (i + 1) (acc' ++ [y]) M4) ∧
      ∀ acc M' p, J ds.length acc M' → Q (.cel p) ((p, .lst acc) :: M'))
    (hs : ∀ x, foldedSetIterable iter X.env x = pure x := by intro _; rfl) : LC X P elt tg iter [] scope δ M Q := by
  refine lc_main N T ok (fun _ _ _ _ _ => pts_nil) ?_ hs
  intro σ H F G
  refine (h σ H F G).mono fun J H1 ⟨F1, M1, ds, Sb, s1, S1, wk, Jv, j0, jS, jT, jE⟩ => ⟨F1, M1, ds, Sb, s1, S1, wk, Jv, j0, jS, fun i d acc M' p hd j => ?_, jE⟩
  obtain ⟨δ', hb, hB⟩ := jT i d acc M' p hd j
  exact ⟨δ', hb, fun σ H F Q' S k => k true H ⟨F, _, Same.refl _, S, by show (if true = true then _ else _); rw [if_pos rfl]; exact hB⟩⟩
/-- one test -/
theorem lc_lcIf (N : Nice X) (T : Tg X scope tg own bind g) (ok : BlkOk X.N X.env.scope scope own) {Q : D → Cells → Prop}
    (h : WI X P tg iter δ M fun ds Sb M1 => ∃ J : Nat → List D → Cells → Prop, J 0 [] M1 ∧ (∀ i acc M' p, i ≤ ds.length → J i acc M' → Sb ((p, .lst acc) :: M')) ∧
      (∀ i d acc M' p, ds[i]? = some d → J i acc M' → ∃ δ', bind d (wipeD δ (own.map (·.2))) δ' ∧ ∀ B : BK, WT (Bx X scope B) PX0 c δ' ((p, .lst acc) :: M') fun k M2 =>
        if k = true then ∀ B : BK, WE (Bx X scope B) PX0 elt δ' M2 fun y M3 => ∃ acc' M4, M3 = (p, .lst acc') :: M4 ∧ acc'.length < sizeLine ∧ J (i + 1) (acc' ++ [y]) M4
        else ∃ acc' M4, M2 = (p, .lst acc') :: M4 ∧ J (i + 1) acc' M4) ∧
      ∀ acc M' p, J ds.length acc M' → Q (.cel p) ((p, .lst acc) :: M'))
    (hs : ∀ x, foldedSetIterable iter X.env x = pure x := by intro _; rfl) : LC X P elt tg iter [c] scope δ M Q := by
  refine lc_main (tt := fun σ H Q => ∀ B : BK, tT (Bx X scope B) c σ H Q) N T ok (fun s H C cl fp => pts_one ⟨fun pins s' σ H' Q I h => h ⟨s, H, C, cl, fp⟩ pins s' I⟩) ?_ hs
  intro σ H F G
  refine (h σ H F G).mono fun J H1 ⟨F1, M1, ds, Sb, s1, S1, wk, Jv, j0, jS, jT, jE⟩ => ⟨F1, M1, ds, Sb, s1, S1, wk, Jv, j0, jS, fun i d acc M' p hd j => ?_, jE⟩
  obtain ⟨δ', hb, hB⟩ := jT i d acc M' p hd j
  exact ⟨δ', hb, fun σ H F Q' S k B => (hB B).go ⟨S, TakesP.none⟩ fun v H' F' M' s G' q => k v H' ⟨F', M', s, G'.st, q⟩⟩
/-- the elements by a function of the item, the cells as they were -/
theorem lc_lcM (f : D → D) (N : Nice X) (T : Tg X scope tg own bind g) (ok : BlkOk X.N X.env.scope scope own) {Q : D → Cells → Prop}
    (h : WI X P tg iter δ M fun ds Sb M1 => ds.length ≤ sizeLine ∧ (∀ p acc, Sb ((p, .lst acc) :: M1)) ∧
      (∀ (i : Nat) d acc p, ds[i]? = some d → ∃ δ', bind d (wipeD δ (own.map (·.2))) δ' ∧ ∀ B : BK, WE (Bx X scope B) PX0 elt δ' ((p, .lst acc) :: M1) fun y M3 => M3 = (p, .lst acc) :: M1 ∧ y = f d) ∧
      ∀ p, Q (.cel p) ((p, .lst (ds.map f)) :: M1))
    (hs : ∀ x, foldedSetIterable iter X.env x = pure x := by intro _; rfl) : LC X P elt tg iter [] scope δ M Q := by
  refine lc_lc N T ok ?_ hs
  intro σ H F G
  refine (h σ H F G).mono fun J H1 ⟨F1, M1, ds, Sb, s1, S1, wk, hl, hS, hT, hE⟩ => ⟨F1, M1, ds, Sb, s1, S1, wk, fun i acc M' => M' = M1 ∧ acc = (ds.take i).map f, ⟨rfl, by simp⟩, fun i acc M' p hi ⟨e1, e2⟩ => by subst e1; exact hS p acc, fun i d acc M' p hd ⟨e1, e2⟩ => ?_, fun acc M' p ⟨e1, e2⟩ => by subst e1 e2; simpa using hE p⟩
  subst e1
  obtain ⟨δ', hb, hB⟩ := hT i d acc p hd
  have hi := (List.getElem?_eq_some_iff.mp hd).1
  refine ⟨δ', hb, fun B => (hB B).imp fun y M3 ⟨e3, e4⟩ => ⟨acc, _, e3, ?_, rfl, ?_⟩⟩
  · rw [e2, List.length_map, List.length_take]; omega
  · rw [e4, e2, List.take_succ, hd]; simp
/-- and a test by a function of the item -/
theorem lc_lcF (k : D → Bool) (f : D → D) (N : Nice X) (T : Tg X scope tg own bind g) (ok : BlkOk X.N X.env.scope scope own) {Q : D → Cells → Prop}
    (h : WI X P tg iter δ M fun ds Sb M1 => ds.length ≤ sizeLine ∧ (∀ p acc, Sb ((p, .lst acc) :: M1)) ∧
      (∀ (i : Nat) d acc p, ds[i]? = some d → ∃ δ', bind d (wipeD δ (own.map (·.2))) δ' ∧ ∀ B : BK, WT (Bx X scope B) PX0 c δ' ((p, .lst acc) :: M1) fun z M2 => M2 = (p, .lst acc) :: M1 ∧ z = k d ∧ (k d = true → ∀ B : BK, WE (Bx X scope B) PX0 elt δ' ((p, .lst acc) :: M1) fun y M3 => M3 = (p, .lst acc) :: M1 ∧ y = f d)) ∧
      ∀ p, Q (.cel p) ((p, .lst ((ds.filter k).map f)) :: M1))
    (hs : ∀ x, foldedSetIterable iter X.env x = pure x := by intro _; rfl) : LC X P elt tg iter [c] scope δ M Q := by
  refine lc_lcIf N T ok ?_ hs
  intro σ H F G
  refine (h σ H F G).mono fun J H1 ⟨F1, M1, ds, Sb, s1, S1, wk, hl, hS, hT, hE⟩ => ⟨F1, M1, ds, Sb, s1, S1, wk, fun i acc M' => M' = M1 ∧ acc = ((ds.take i).filter k).map f, ⟨rfl, by simp⟩, fun i acc M' p hi ⟨e1, e2⟩ => by subst e1; exact hS p acc, fun i d acc M' p hd ⟨e1, e2⟩ => ?_, fun acc M' p ⟨e1, e2⟩ => by subst e1 e2; simpa using hE p⟩
  subst e1
  obtain ⟨δ', hb, hB⟩ := hT i d acc p hd
  have hi := (List.getElem?_eq_some_iff.mp hd).1
  refine ⟨δ', hb, fun B => (hB B).imp fun z M2 ⟨e3, e4, e5⟩ => ?_⟩
  subst e3 e4
  have el : acc.length < sizeLine := by
    rw [e2, List.length_map]
    have := List.length_filter_le k (ds.take i)
    rw [List.length_take] at this; omega
  cases hk : k d with
  | false =>
    rw [if_neg (by decide)]
    refine ⟨acc, _, rfl, rfl, ?_⟩
    rw [e2, List.take_succ, hd]; simp [hk]
  | true =>
    rw [if_pos rfl]
    refine fun B => (e5 hk B).imp fun y M3 ⟨e6, e7⟩ => ⟨acc, _, e6, el, rfl, ?_⟩
    rw [e7, e2, List.take_succ, hd]; simp [hk]

theorem we_lcM (f : D → D) (N : Nice X) (T : Tg X scope tg own bind g) (ok : BlkOk X.N X.env.scope scope own) {Q : D → Cells → Prop}
    (h : WI X P tg iter δ M fun ds Sb M1 => ds.length ≤ sizeLine ∧ (∀ p acc, Sb ((p, .lst acc) :: M1)) ∧
      (∀ (i : Nat) d acc p, ds[i]? = some d → ∃ δ', bind d (wipeD δ (own.map (·.2))) δ' ∧ ∀ B : BK, WE (Bx X scope B) PX0 elt δ' ((p, .lst acc) :: M1) fun y M3 => M3 = (p, .lst acc) :: M1 ∧ y = f d) ∧
      ∀ p, Q (.cel p) ((p, .lst (ds.map f)) :: M1))
    (hs : ∀ x, foldedSetIterable iter X.env x = pure x := by intro _; rfl) : WE X P (.ListComp elt [⟨tg, iter, [], 0⟩] scope pos) δ M Q := we_ofLC N (lc_lcM f N T ok h hs)
end

abbrev TSp := List D → Cells → (D → Cells → Prop) → (Ex → Cells → Prop) → Prop
def spG (K : PySem.W.Frag) (T : TSp) : Sp := fun vs H Q E => ∃ F M ds, Stt K F M [] [] H ∧ Reps K F vs ds ∧
  T ds M (fun d M' => ∀ v F' H', Same F F' → Stt K F' M' [] [] H' → Rep K F' v d → Q v H') (fun x M' => ∀ cls d F' H', Same F F' → Stt K F' M' [] [] H' → ExIs K F' H' cls d x → E cls d H')
def startD (N : List Str) (ds : List D) : Slots := ds.map some ++ List.replicate (N.length - ds.length) none
theorem Stt.start {K : PySem.W.Frag} {F : Hp} {M : Cells} {H : Hp} (S : Stt K F M [] [] H) {N : List Str} {vs : List V} {ds : List D} (r : Reps K F vs ds) : Stt K F M (startD N ds) (L2.start N vs) H := by
  refine S.slots (by simp [startD, L2.start, r.length]) fun i d h => ?_
  unfold startD at h
  by_cases hi : i < ds.length
  · rw [List.getElem?_append_left (by simpa using hi), List.getElem?_map] at h
    cases e : ds[i]? with
    | none => rw [e] at h; cases h
    | some z =>
      rw [e] at h
      obtain ⟨v, h1, h2⟩ := r.get e
      cases h
      refine ⟨v, ?_, h2⟩
      unfold L2.start
      rw [List.getElem?_append_left (by simpa [r.length] using hi), List.getElem?_map, h1]; rfl
  · rw [List.getElem?_append_right (by simpa using hi), List.getElem?_replicate] at h
    split at h <;> cases h
theorem Stt.bare {K : PySem.W.Frag} {F : Hp} {M : Cells} {δ : Slots} {σ : L2.St} {H : Hp} (S : Stt K F M δ σ H) : Stt K F M [] [] H := S.slots rfl fun i d h => by simp at h
/-- the answer's wish may be weakened -/
def Mono (T : TSp) : Prop := ∀ ds M Q Q' E E', (∀ d M', Q d M' → Q' d M') → (∀ x M', E x M' → E' x M') → T ds M Q E → T ds M Q' E'
/-- a def known by its name -/
structure FD (P : Program) (w : World) (K : PySem.W.Frag) (mg : Str → Option Value) (base : Heap) (k : Nat) (x : Str) (n : Nat) (T : TSp) : Prop where
  mono : Mono T
  ex : ∃ f fd ps, mg x = some (.ref f) ∧ PySem.W.keepIn K (.ref f) = true ∧ ps.length = n ∧ Binds K fd ps [] ∧ FnOk P w K mg base (L2.CX P w) k f fd ps (spG K T)
section
variable {P : Program} {w : World} {K : PySem.W.Frag} {mg : Str → Option Value} {base : Heap}
abbrev cxF (P : Program) (w : World) (K : PySem.W.Frag) (mg : Str → Option Value) (base : Heap) (N : List Str) (qual : Str) (st : Stmt) (f : Addr) (cdv : Value) (A : Around) (outer : List Env) (s : Shared) (H : Hp) (E : XK) : Cx := cxOf (L2.CX P w) P w K mg base N qual (defScope st) f cdv A outer s H E
/-- THE RULE for a def -/
theorem fn_ok {x qual : Str} {st : Stmt} {f : Addr} {fd : FuncData} {N ps : List Str} {k n : Nat} {T : TSp} (Fn : L2.Fun K x qual st f fd) (S : FnScope N ps (defScope st)) (hn : ps.length = n) (len : ∀ ds M Q E, T ds M Q E → ds.length = n)
    (body : ∀ (cdv : Value) (A : Around) (outer : List Env) (s : Shared) (H : Hp) (E : XK), Nice (cxF P w K mg base N qual st f cdv A outer s H E) → Room k (cxF P w K mg base N qual st f cdv A outer s H E).A →
      ∀ ds M (Q : D → Cells → Prop) (X' : Ex → Cells → Prop), T ds M Q X' → WB (cxF P w K mg base N qual st f cdv A outer s H E) (fun x _ M' => X' x M') (defBody st) (startD N ds) M { nx := fun _ M' => Q .non M', rt := Q }) :
    FnOk P w K mg base (L2.CX P w) (k + 1) f fd ps (spG K T) := by
  refine Fn.okX S (fun vs H Q E ⟨F, M, ds, S', r, t⟩ => by rw [r.length, len _ _ _ _ t, hn]) fun cdv A outer s H vs Q E hr h => ?_
  obtain ⟨F, M, ds, S0, r, t⟩ := h
  have tk := takes_of (X := cxF P w K mg base N qual st f cdv A outer s H E) (E := E) rfl rfl rfl rfl
  have N0 : Nice (cxF P w K mg base N qual st f cdv A outer s H E) := ⟨rfl, S.nd, passes_of rfl⟩
  refine ⟨_, pss_sem, (body cdv A outer s H E N0 hr ds M _ _ t _ H F ⟨S0.start r, _, tk, fun cls d σ' H' ⟨F', M', δ', x, s', S', hx, q⟩ => q cls d F' H' s' S'.bare hx⟩).mono ⟨?_, ?_, fun _ _ ⟨_, _, _, _, _, q⟩ => q.elim, fun _ _ ⟨_, _, _, _, _, q⟩ => q.elim⟩⟩
  · rintro σ' H' ⟨F', M', δ', s', S', q⟩
    exact q .non F' H' s' S'.bare .non
  · rintro v H' ⟨F', M', δ', σ', d, s', S', r', q⟩
    exact q v F' H' s' S'.bare r'
theorem fd_ok {x qual : Str} {st : Stmt} {f : Addr} {fd : FuncData} {ps : List Str} {k n : Nat} {T : TSp} (Fn : L2.Fun K x qual st f fd) (hm : mg x = some (.ref f)) (hn : ps.length = n) (hb : Binds K fd ps []) (mono : Mono T) (h : FnOk P w K mg base (L2.CX P w) k f fd ps (spG K T)) : FD P w K mg base k x n T := ⟨mono, f, fd, ps, hm, Fn.kp, hn, hb, h⟩
end
section
variable {X : Cx} {P : XP} {F : Hp} {M : Cells} {δ : Slots} {σ : L2.St} {H : Hp} {e a b c o : Expr} {es : List Expr} {pos apos cpos p p2 : Pos}
/-- f(e, ..) -/
theorem we_call {x : Str} {k n : Nat} {T : TSp} {Q : D → Cells → Prop} (c : FD X.prog X.w X.K X.mg X.base k x n T) (hr : Room k X.A) (hg : Gl X x) (h : WA X P (e :: es) δ M fun ds M1 => T ds M1 Q (fun x M' => P x δ M'))
    (hdb : (x == ("__debug__" : Str)) = false := by decide) (he : starEach (e :: es) X.env = (false, eval e X.env) :: starEach es X.env := by rfl) (hpl : (backTo pos (starEach es X.env)).any (·.1) = false := by rfl) : WE X P (.Call (.Name x p) (e :: es) [] pos) δ M Q := by
  obtain ⟨f, fd, ps, hm, hk, hn, hb, Fo⟩ := c.ex
  intro σ H F G
  obtain ⟨W, tw, hw⟩ := G.tk
  intro pins s I
  refine (pe_callS Fo hr hg hm hk hb (E := fun σ cls d H => W cls d σ H) (fun σ => passAt tw σ) pa_sem hdb he hpl).run pins s σ H _ I ?_
  refine h.go G fun vs H1 F1 M1 ds s1 G1 r1 q1 => ⟨F1, M1, ds, G1.st.bare, r1, c.mono _ _ _ _ _ _ (fun d M' q v F' H' s' S' r' => ?_) (fun y M' q cls d F' H' s' S' hx => ?_) q1⟩
  · exact ret (S'.keep G1.st s') (s1.trans s') r' q
  · exact hw cls d σ H' ⟨F', M', δ, y, s1.trans s', S'.keep G1.st s', hx, q⟩
end
end PW
/-! PW6 -/
namespace PW
open PySem L2 PyProof.Rows
theorem iteD {p : Prop} [Decidable p] {A B : Prop} (h1 : p → A) (h2 : ¬ p → B) : if decide p = true then A else B := by
  by_cases h : p
  · rw [if_pos (decide_eq_true h)]; exact h1 h
  · rw [if_neg (by rw [decide_eq_false h]; decide)]; exact h2 h
theorem iteN {p : Prop} [Decidable p] {A B : Prop} (h1 : ¬ p → A) (h2 : p → B) : if (!decide p) = true then A else B := by
  by_cases h : p
  · rw [if_neg (by rw [decide_eq_true h]; decide)]; exact h2 h
  · rw [if_pos (by rw [decide_eq_false h]; rfl)]; exact h1 h
theorem iteT' {A B : Prop} (h : A) : if true = true then A else B := by rw [if_pos rfl]; exact h
theorem iteF' {A B : Prop} (h : B) : if false = true then A else B := by rw [if_neg (by decide)]; exact h
section
variable {X : Cx} {P : XP} {F : Hp} {M : Cells} {δ : Slots} {σ : L2.St} {H : Hp} {e a b c o : Expr} {es : List Expr} {pos apos cpos p p2 : Pos}
theorem we_globI {x : Str} {i : Int} {Q : D → Cells → Prop} (hg : Gl X x) (hm : ∃ t, X.mg x = some (.int i t)) (h : Q (.int i) M) (hd : (x == ("__debug__" : Str)) = false := by decide) : WE X P (.Name x pos) δ M Q := by
  obtain ⟨t, ht⟩ := hm
  exact we_glob (v := .int i) hg ht ⟨t, rfl⟩ (fun _ _ => .int i) h hd
end
theorem set_get {α : Type} {l : List α} {k : Nat} {x y : α} (h : l[k]? = some y) : (l.set k x)[k]? = some x := List.getElem?_set_self (List.getElem?_eq_some_iff.mp h).1
section
variable {X : Cx} {P : XP} {M : Cells} {δ : Slots} {st : Stmt} {rest : List Stmt} {E : En}
end
theorem room_le {j k : Nat} {A : Around} (h : Room k A) (l : j ≤ k) : Room j A := h.mono l
theorem log2_lt {i : Int} {n : Nat} (h : i.natAbs < 2 ^ n) (hn : 0 < n) : i.natAbs.log2 < n := by
  by_cases e : i.natAbs = 0
  · rw [e]; simpa using hn
  · exact (Nat.log2_lt e).mpr h
theorem intBits_le {i : Int} {n : Nat} (h : i.natAbs < 2 ^ n) : Builtin.Int.intBits i ≤ n := by
  unfold Builtin.Int.intBits
  split
  · omega
  · rename_i h0
    have : i.natAbs ≠ 0 := by intro z; apply h0; simpa using z
    have := (Nat.log2_lt this).mpr h
    omega
end PW
/-! PWS -/
namespace PW
open PySem L2 PyProof.Rows
section
variable {P : Program} {w : World} {A : Around} {E : Value → Shared → Prop} {s : Shared}
end
end PW
namespace PW
open PySem L2 PyProof.Rows
section
variable {X : Cx} {P : XP} {F : Hp} {M : Cells} {δ : Slots} {σ : L2.St} {H : Hp} {e a b c o : Expr} {es : List Expr} {pos apos cpos p p2 q : Pos}
end
end PW
/-! PW7 -/
namespace PW
open PySem L2 PyProof.Rows
section
variable {X : Cx} {P : XP} {F : Hp} {M : Cells} {δ : Slots} {σ : L2.St} {H : Hp} {e a b c o : Expr} {es : List Expr} {pos apos cpos p p2 q : Pos} {kws : List Keyword}
theorem we_bits {Q : D → Cells → Prop} (h : WE X P o δ M fun d M1 => ∃ i, d = .int i ∧ Q (.int (Builtin.Int.intBits i : Nat)) M1)
    (hbase : attributeBase o "bit_length" X.env (eval o X.env) = eval o X.env := by rfl) (hline : (apos.endLine == pos.line) = true := by rfl) : WE X P (.Call (.Attribute o "bit_length" apos) [] [] pos) δ M Q :=
  we_of (pe_bits pe_sem hbase hline) fun σ H F G => h.go G fun v H1 F1 M1 d s1 G1 r1 q1 => by
    obtain ⟨i, rfl, q⟩ := q1
    cases r1
    exact ⟨i, rfl, ret G1.st s1 (.int _) q⟩
def RIx : RD2 := fun d e M Q => (∃ ds i z, LV M d ds ∧ e = .int i ∧ atI ds i = some z ∧ Q z M) ∨ (∃ ds i z, d = .tup ds ∧ e = .int i ∧ atI ds i = some z ∧ Q z M) ∨ (∃ z i c, d = .str z ∧ e = .int i ∧ z.length ≤ sizeLine ∧ atI z.cps.toList i = some c ∧ Q (.str ⟨#[c]⟩) M)
theorem ixR_or {r r' : R2} (h : IxR X r) (h' : IxR X r') : IxR X (fun x y H Q => r x y H Q ∨ r' x y H Q) := h.or h'
theorem we_ix {Q : D → Cells → Prop} (h : WE X P a δ M fun d M1 => WE X P b δ M1 fun e M2 => RIx d e M2 Q) (hs : PlainIx b) : WE X P (.Subscript a b pos) δ M Q :=
  we_of (pe_ix (ixR_or ix_list (ixR_or ix_tup ix_str)) pe_sem pe_sem hs) fun σ H F G => bind2 (fun _ _ z => z) (lift_ixL.or (lift_ixT.or lift_ixS)) h G
def RSl (d : D) (l u : Option Int) (M : Cells) (Q : D → Cells → Prop) : Prop := (∃ ds, LV M d ds ∧ Q (.lst (cutD ds l u)) M) ∨ ∃ z, d = .str z ∧ z.length ≤ sizeLine ∧ Q (.str (cutS z l u)) M
theorem we_sl {lo hi : Option Expr} {Q : D → Cells → Prop} (h : WE X P e δ M fun d M1 => WO X P lo δ M1 fun l M2 => WO X P hi δ M2 fun u M3 => RSl d l u M3 Q) : WE X P (.Subscript e (.Slice lo hi none p2) pos) δ M Q :=
  we_of (pe_slice (SlR.or sl_list sl_str) pe_sem po_sem po_sem) fun σ H F G => h.go G fun v H1 F1 M1 d s1 G1 r1 q1 => (q1 σ H1 F1 G1).mono fun l H2 ⟨F2, M2, s2, S2, q2⟩ => (q2 σ H2 F2 ⟨S2, G1.tk.up s2⟩).mono fun u H3 ⟨F3, M3, s3, S3, q3⟩ => by
    rcases q3 with ⟨ds, h1, q3⟩ | ⟨z, rfl, hz, q3⟩
    · obtain ⟨a, xs, rfl, e1, e2⟩ := S3.readL (r1.up (s2.trans s3)) h1
      refine .inl ⟨a, xs, rfl, e1, fun p hp => ?_⟩
      obtain ⟨S', s'⟩ := S3.froz (o := .lst (cutV xs l u)) hp
      exact ret S' (((s1.trans s2).trans s3).trans s') (.lst (.of upd_same) ((reps_cut e2 l u).up s')) q3
    · cases r1
      exact .inr ⟨z, rfl, hz, ret S3 ((s1.trans s2).trans s3) (.str _) q3⟩
theorem we_int2 {Q : D → Cells → Prop} (hg : Gl X "int") (hm : X.mg "int" = none) (h : WA X P [e] δ M fun ds M1 => (∃ i, ds = [.int i] ∧ Q (.int i) M1) ∨ (∃ k, ds = [.bl k] ∧ Q (.int (if k then 1 else 0)) M1) ∨ ∃ z n, ds = [.str z] ∧ PySem.intText? z = some n ∧ z.length ≤ 640 ∧ Q (.int n) M1) (he : starEach [e] X.env = (false, eval e X.env) :: starEach [] X.env := by rfl) (hpl : (backTo pos (starEach [] X.env)).any (·.1) = false := by rfl) : WE X P (.Call (.Name "int" p) [e] [] pos) δ M Q :=
  we_callTy (R := fun ds M1 Q => (∃ i, ds = [.int i] ∧ Q (.int i) M1) ∨ (∃ k, ds = [.bl k] ∧ Q (.int (if k then 1 else 0)) M1) ∨ ∃ z n, ds = [.str z] ∧ PySem.intText? z = some n ∧ z.length ≤ 640 ∧ Q (.int n) M1) (call_int1.or call_int_str) (fun k s S r h => by
    rcases h with ⟨i, rfl, q⟩ | ⟨i, rfl, q⟩ | ⟨z, n, rfl, h1, h2, q⟩
    · obtain ⟨v, rfl, r1⟩ := r.one
      cases r1
      exact .inl (.inl ⟨i, rfl, k _ _ (ret S s (.int _) q)⟩)
    · obtain ⟨v, rfl, r1⟩ := r.one
      cases r1
      exact .inl (.inr ⟨i, rfl, k _ _ (ret S s (.int _) q)⟩)
    · obtain ⟨v, rfl, r1⟩ := r.one
      cases r1
      exact .inr ⟨z, n, rfl, h1, h2, k _ _ (ret S s (.int _) q)⟩) hg hm (by decide +kernel) h (by decide) (by decide) he hpl
theorem reps_dOf {K : PySem.W.Frag} : ∀ {xs : List V} {vs : List V}, Reps K F vs (xs.map dOf) → vs = xs
  | [], _, h => by cases h; rfl
  | x :: xs, _, h => by cases h with | cons a b => rw [scal_rep x a rfl, reps_dOf b]
def RIn (neg : Bool) : RD2 := fun d e M Q => (∃ (x : V) (xs : List V), d = dOf x ∧ (LV M e (xs.map dOf) ∨ e = .tup (xs.map dOf)) ∧ flatV x = true ∧ xs.all flatV = true ∧ Q (.bl (if neg then !inV x xs else inV x xs)) M) ∨
  ∃ (c : Nat) (z : Str), d = .str ⟨#[c]⟩ ∧ e = .str z ∧ Q (.bl (if neg then !decide (c ∈ z.cps.toList) else decide (c ∈ z.cps.toList))) M
theorem lift_in {neg : Bool} : Lift2 X (fun x y H Q => rIn X.K neg x y H Q ∨ ∃ (c : Nat) (z : Str), x = .str ⟨#[c]⟩ ∧ y = .str z ∧ Q (.bl (if neg then !decide (c ∈ z.cps.toList) else decide (c ∈ z.cps.toList))) H) (RIn neg) := fun k s S r1 r2 h => by
  rcases h with ⟨x, xs, rfl, hl, h1, h2, q⟩ | ⟨c, z, rfl, rfl, q⟩
  · obtain ⟨a, vs, rfl, e1, e2⟩ := S.readLT r2 hl
    rw [reps_dOf e2] at e1
    rw [scal_rep x r1 rfl]
    exact .inl ⟨a, xs, rfl, e1, h1, h2, k _ _ (ret S s (.bl _) q)⟩
  · cases r1; cases r2
    exact .inr ⟨c, z, rfl, rfl, k _ _ (ret S s (.bl _) q)⟩
theorem op_inG : OpR X (compareOp .In) (fun x y H Q => rIn X.K false x y H Q ∨ ∃ (c : Nat) (z : Str), x = .str ⟨#[c]⟩ ∧ y = .str z ∧ Q (.bl (if false then !decide (c ∈ z.cps.toList) else decide (c ∈ z.cps.toList))) H) := op_in_seq.or op_in_sign
theorem wt_in {Q : Bool → Cells → Prop} (h : WE X P a δ M fun d M1 => WE X P b δ M1 fun e M2 => RIn false d e M2 (onB Q)) (hmk : behindInMarks .In b = false := by rfl) : WT X P (.Compare a [.In] [b] pos) δ M Q := wt_cmp op_inG lift_in hmk h
def REq (neg : Bool) : RD2 := fun d e M Q => RScal neg d e M Q ∨ ∃ p q, PV M d p ∧ PV M e q ∧ SeqAt.shaped p = true ∧ SeqAt.shaped q = true ∧ Q (.bl (if neg then !PyData.eqv p q else PyData.eqv p q)) M
theorem we_eq {Q : D → Cells → Prop} (hu : X.A.units + 64 < cLine) (h : WE X P a δ M fun d M1 => WE X P b δ M1 fun e M2 => REq false d e M2 Q) : WE X P (.Compare a [.Eq] [b] pos) δ M Q := we_cmp (op_eq.or (op_eqD hu)) (lift_eqS.or lift_eqD) (nomark _) h
theorem wt_eq {Q : Bool → Cells → Prop} (hu : X.A.units + 64 < cLine) (h : WE X P a δ M fun d M1 => WE X P b δ M1 fun e M2 => REq false d e M2 (onB Q)) : WT X P (.Compare a [.Eq] [b] pos) δ M Q := wt_cmp (op_eq.or (op_eqD hu)) (lift_eqS.or lift_eqD) (nomark _) h
theorem wt_ne {Q : Bool → Cells → Prop} (hu : X.A.units + 64 < cLine) (h : WE X P a δ M fun d M1 => WE X P b δ M1 fun e M2 => REq true d e M2 (onB Q)) : WT X P (.Compare a [.NotEq] [b] pos) δ M Q := wt_cmp (op_ne.or (op_neD hu)) (lift_neS.or lift_neD) (nomark _) h
theorem prd_some {α β : Type} {R : α → β → Prop} {v : α} : ∀ {a : List α} {b : List β} {i : Nat}, Paired R a b → a[i]? = some v → ∃ u, b[i]? = some u ∧ R v u
  | _, _, _, .nil, h => by simp at h
  | _, _, 0, .cons r t, h => by simp at h; subst h; exact ⟨_, by simp, r⟩
  | _, _, i + 1, .cons r t, h => by obtain ⟨u, h1, h2⟩ := prd_some (i := i) t (by simpa using h); exact ⟨u, by simpa using h1, h2⟩
end
section
variable {P : Program} {w : World} {K : PySem.W.Frag} {mg : Str → Option Value} {base : Heap}
end
end PW
/-! PW8 -/
namespace PW
open PySem L2 PyProof.Rows
section
variable {M : Cells} {Q : D → Cells → Prop} {d : D} {ds : List D} {z : D}
theorem iteP {b : Bool} {A B : Prop} (hb : b = true) (h : A) : if b = true then A else B := by rw [if_pos hb]; exact h
theorem iteQ {b : Bool} {A B : Prop} (hb : b = false) (h : B) : if b = true then A else B := by rw [if_neg (by rw [hb]; decide)]; exact h
theorem req_i {i j : Int} (h : Q (.bl (decide (i = j))) M) : REq false (.int i) (.int j) M Q := .inl ⟨.int i, .int j, rfl, rfl, rfl, by
  have e : decide (V.int i = V.int j) = decide (i = j) := by simp
  rw [if_neg (by decide), e]; exact h⟩
theorem req_iN {i j : Int} (h : Q (.bl (!decide (i = j))) M) : REq true (.int i) (.int j) M Q := .inl ⟨.int i, .int j, rfl, rfl, rfl, by
  have e : decide (V.int i = V.int j) = decide (i = j) := by simp
  rw [if_pos rfl, e]; exact h⟩
theorem req_b {i j : Bool} (h : Q (.bl (decide (i = j))) M) : REq false (.bl i) (.bl j) M Q := .inl ⟨.bl i, .bl j, rfl, rfl, rfl, by
  have e : decide (V.bl i = V.bl j) = decide (i = j) := by simp
  rw [if_neg (by decide), e]; exact h⟩
theorem req_bN {i j : Bool} (h : Q (.bl (!decide (i = j))) M) : REq true (.bl i) (.bl j) M Q := .inl ⟨.bl i, .bl j, rfl, rfl, rfl, by
  have e : decide (V.bl i = V.bl j) = decide (i = j) := by simp
  rw [if_pos rfl, e]; exact h⟩
theorem req_s {i j : Str} (h : Q (.bl (decide (i = j))) M) : REq false (.str i) (.str j) M Q := .inl ⟨.str i, .str j, rfl, rfl, rfl, by
  have e : decide (V.str i = V.str j) = decide (i = j) := by simp
  rw [if_neg (by decide), e]; exact h⟩
theorem req_n (h : Q (.bl true) M) : REq false .non .non M Q := .inl ⟨.non, .non, rfl, rfl, rfl, by
  rw [if_neg (by decide), decide_eq_true rfl]; exact h⟩
theorem req_dN {d e : D} {p q : PyData} (h1 : PV M d p) (h2 : PV M e q) (s1 : SeqAt.shaped p = true) (s2 : SeqAt.shaped q = true) (h : Q (.bl (!PyData.eqv p q)) M) : REq true d e M Q := .inr ⟨p, q, h1, h2, s1, s2, by rw [if_pos rfl]; exact h⟩
theorem isi1 {t n : String} {b : Bool} (ht : TyA M d t) (hn : n ∈ ["bool", "int", "str", "tuple", "list", "dict"]) (hb : isT t n = b) (q : Q (.bl b) M) : RIsi [d, .raw (.ty n)] M Q ∨ RIsiT [d, .raw (.ty n)] M Q := .inl ⟨d, t, n, rfl, ht, hn, by rw [hb]; exact q⟩
theorem isi2 {t n m : String} {b : Bool} (ht : TyA M d t) (hn : n ∈ ["bool", "int", "str", "tuple", "list", "dict"]) (hm : m ∈ ["bool", "int", "str", "tuple", "list", "dict"]) (hb : (isT t n || isT t m) = b) (q : Q (.bl b) M) :
    RIsi [d, .tup [.raw (.ty n), .raw (.ty m)]] M Q ∨ RIsiT [d, .tup [.raw (.ty n), .raw (.ty m)]] M Q := .inr ⟨d, t, n, m, rfl, ht, hn, hm, by rw [hb]; exact q⟩
theorem nr_non {A : Prop} (h : A) : (∀ v, D.non ≠ D.raw v) ∧ A := ⟨fun v e => (by cases e), h⟩
def CL (M : Cells) (b : Addr) (R : List D → (List D → Cells) → Prop) : Prop := ∃ (k : Nat) (ds : List D), M[k]? = some (b, .lst ds) ∧ R ds (fun ds' => M.set k (b, .lst ds'))
theorem cl_k {b : Addr} {R : List D → (List D → Cells) → Prop} {k : Nat} {ds : List D} (h : M[k]? = some (b, .lst ds)) (r : R ds (fun ds' => M.set k (b, .lst ds'))) : CL M b R := ⟨k, ds, h, r⟩
theorem cl_set {b : Addr} {R : List D → (List D → Cells) → Prop} {k : Nat} {ds : List D} {c : Addr × Cell} (h : M[k]? = some c) (r : R ds (fun ds' => M.set k (b, .lst ds'))) : CL (M.set k (b, .lst ds)) b R := ⟨k, ds, set_get h, by
  have e : (fun ds' => (M.set k (b, Cell.lst ds)).set k (b, Cell.lst ds')) = fun ds' => M.set k (b, Cell.lst ds') := by funext ds'; exact List.set_set ..
  rw [e]; exact r⟩
theorem cl_0 {b : Addr} {R : List D → (List D → Cells) → Prop} {ds : List D} (r : R ds (fun ds' => (b, .lst ds') :: M)) : CL ((b, .lst ds) :: M) b R := ⟨0, ds, rfl, r⟩
theorem cl_skip {b : Addr} {R : List D → (List D → Cells) → Prop} {p : Addr × Cell} (r : CL M b fun ds f => R ds (fun ds' => p :: f ds')) : CL (p :: M) b R := let ⟨k, ds, h, r⟩ := r; ⟨k + 1, ds, h, r⟩
theorem rix_cl {b : Addr} {i : Int} (h : CL M b fun ds _ => ∃ z, atI ds i = some z ∧ Q z M) : RIx (.cel b) (.int i) M Q := let ⟨k, ds, h1, z, h2, h3⟩ := h; .inl ⟨ds, i, z, .c k h1, rfl, h2, h3⟩
theorem rix_l {i : Int} (h : ∃ z, atI ds i = some z ∧ Q z M) : RIx (.lst ds) (.int i) M Q := let ⟨z, h2, h3⟩ := h; .inl ⟨ds, i, z, .l, rfl, h2, h3⟩
theorem rix_t {i : Int} (h : ∃ z, atI ds i = some z ∧ Q z M) : RIx (.tup ds) (.int i) M Q := let ⟨z, h2, h3⟩ := h; .inr (.inl ⟨ds, i, z, rfl, rfl, h2, h3⟩)
theorem wgs_cl {b : Addr} {i : Int} {R : Cells → Prop} (h : CL M b fun ds f => ∃ j, ixN ds.length i = some j ∧ R (f (ds.set j d))) :
    ∃ k q ds z j, D.cel b = .cel q ∧ M[k]? = some (q, .lst ds) ∧ D.int i = .int z ∧ ixN ds.length z = some j ∧ R (M.set k (q, .lst (ds.set j d))) := let ⟨k, ds, h1, j, h2, h3⟩ := h; ⟨k, b, ds, i, j, rfl, h1, rfl, h2, h3⟩
theorem LV.cons {p : Addr × Cell} (h : LV M d ds) : LV (p :: M) d ds := h.elim .inl fun ⟨k, a, h1, h2⟩ => .inr ⟨k + 1, a, h1, h2⟩
theorem LV.ty (h : LV M d ds) : TyA M d "list" := by
  rcases h with rfl | ⟨k, a, rfl, h⟩
  · exact (rfl : "list" = "list")
  · show "list" = "list" ∧ ∃ (k : Nat) (ds : List D), M[k]? = some (a, .lst ds)
    exact ⟨rfl, k, ds, h⟩
def Sq (M : Cells) (d : D) (t : String) (ds : List D) : Prop := (t = "list" ∧ LV M d ds) ∨ (t = "tuple" ∧ d = .tup ds)
theorem Sq.cons {t : String} {p : Addr × Cell} (h : Sq M d t ds) : Sq (p :: M) d t ds := h.elim (fun h => .inl ⟨h.1, h.2.cons⟩) .inr
theorem Sq.ty {t : String} (h : Sq M d t ds) : TyA M d t := by
  rcases h with ⟨rfl, h⟩ | ⟨rfl, rfl⟩
  · exact h.ty
  · exact (rfl : "tuple" = "tuple")
theorem Sq.len {t : String} (h : Sq M d t ds) (q : Q (.int ds.length) M) : RLen [d] M Q := by
  rcases h with ⟨rfl, h⟩ | ⟨rfl, rfl⟩
  · exact .inl ⟨d, ds, rfl, h, q⟩
  · exact .inr (.inl ⟨ds, rfl, q⟩)
theorem Sq.ix {t : String} {i : Int} (h : Sq M d t ds) (hz : atI ds i = some z) (q : Q z M) : RIx d (.int i) M Q := by
  rcases h with ⟨rfl, h⟩ | ⟨rfl, rfl⟩
  · exact .inl ⟨ds, i, z, h, rfl, hz, q⟩
  · exact .inr (.inl ⟨ds, i, z, rfl, rfl, hz, q⟩)
/-- alike, as the laws' own test of it goes -/
inductive Alk (M : Cells) : Nat → D → D → Prop
  | non {n : Nat} : Alk M n .non .non
  | bl {n : Nat} (b : Bool) : Alk M n (.bl b) (.bl b)
  | int {n : Nat} (i : Int) : Alk M n (.int i) (.int i)
  | str {n : Nat} (x : Str) : Alk M n (.str x) (.str x)
  | seq {n : Nat} {d e : D} {t : String} {ds es : List D} (h1 : Sq M d t ds) (h2 : Sq M e t es) (hl : ds.length = es.length) (hz : es.length ≤ 1000000) (h : ∀ (i : Nat) (a b : D), ds[i]? = some a → es[i]? = some b → Alk M n a b) : Alk M (n + 1) d e
theorem Alk.cons {p : Addr × Cell} {n : Nat} {d e : D} (h : Alk M n d e) : Alk (p :: M) n d e := by
  induction h with
  | non => exact .non
  | bl b => exact .bl b
  | int b => exact .int b
  | str b => exact .str b
  | seq h1 h2 hl hz h ih => exact .seq h1.cons h2.cons hl hz fun i a b ha hb => ih i a b ha hb
def TAlk (n : Nat) : TSp := fun ds M Q _ => ∃ d e, ds = [d, e] ∧ Alk M n d e ∧ Q (.bl true) M
theorem TAlk_mono (n : Nat) : Mono (TAlk n) := fun ds M Q Q' E E' h _ ⟨d, e, h1, h2, h3⟩ => ⟨d, e, h1, h2, h _ _ h3⟩
theorem TAlk_len (n : Nat) : ∀ ds M Q E, TAlk n ds M Q E → ds.length = 2 := fun ds M Q E h => by obtain ⟨_, _, rfl, _⟩ := h; rfl
end
section
variable {X : Cx} {P : XP} {F : Hp} {M : Cells} {δ : Slots} {σ : L2.St} {H : Hp} {e a b c o : Expr} {es : List Expr} {pos apos cpos p p2 q : Pos}
theorem wt_lelt {Q : Bool → Cells → Prop} (h : WE X P a δ M fun d M1 => WE X P b δ M1 fun e M2 => ∃ i j, d = .int i ∧ e = .int j ∧ if decide (i ≤ j) = true then WE X P c δ M2 fun f M3 => ∃ l, f = .int l ∧ Q (decide (j < l)) M3 else Q false M2)
    (hm : lastMarks [.LtE, .Lt] [b, c] = false := by with_unfolding_all rfl) : WT X P (.Compare a [.LtE, .Lt] [b, c] pos) δ M Q :=
  wt_chain op_le op_lt lift_B0 lift_B0 (h.imp fun d M1 q => q.imp fun e M2 ⟨i, j, h1, h2, q⟩ => ⟨i, j, h1, h2, _, rfl, by
    split at q
    · rename_i hc; rw [if_pos hc]; exact q.imp fun f M3 ⟨l, h3, q⟩ => ⟨j, l, h2, h3, _, rfl, q⟩
    · rename_i hc; rw [if_neg hc]; exact ⟨_, rfl, q⟩⟩) hm
end
end PW
/-! PW9 -/
namespace PW
open PySem L2 PyProof.Rows
section
variable {X : Cx} {P : XP} {F : Hp} {M : Cells} {δ : Slots} {σ : L2.St} {H : Hp} {e a b c o : Expr} {es : List Expr} {pos apos cpos p p1 p2 q : Pos} {E : En}
/-- an expression that makes an exception, read at the layer -/
def WM (X : Cx) (P : XP) (e : Expr) (δ : Slots) (M : Cells) (R : Ex → Cells → Prop) : Prop :=
  ∃ t : L2.St → Hp → XK → Prop, PMk X e t ∧ ∀ σ H F, Go X P F M δ σ H → ∀ Q : XK, (∀ cls d H' F' M' x, Same F F' → Stt X.K F' M' δ σ H' → ExIs X.K F' H' cls d x → R x M' → Q cls d H') → t σ H Q
theorem ws_raise (N : Nice X) (h : WM X P e δ M fun x M' => P x δ M') : WS X P (.Raise (some e) none pos) δ M E := by
  obtain ⟨t, mk, h⟩ := h
  intro σ H F G
  obtain ⟨W, tw, hw⟩ := G.tk
  intro pins s I
  refine (ps_raise N.calm tw mk).run pins s σ H _ I (h σ H F G _ fun cls d H' F' M' x s' S' hx q => ?_)
  exact hw cls d σ H' ⟨F', M', δ, x, s', S', hx, q⟩
/-- C('text'), C an own class without an __init__ of its own -/
theorem wm_own {x m : Str} {j : Nat} {C : Addr} {bmB : List Value} {B newId initId : String} {R : Ex → Cells → Prop} (Fb : ExcBaseFacts B newId initId bmB) (hq : PySem.W.excIn X.K C bmB newId = true) (gC : X.mg x = some (.ref C)) (kC : PySem.W.keepIn X.K (.ref C) = true)
    (r : Raises X (.ref C)) (hg : Gl X x) (h : R ⟨C, []⟩ M) (hdb : (x == ("__debug__" : Str)) = false := by decide) : WM X P (.Call (.Name x p) [.Constant (.str m) j p2] [] pos) δ M R :=
  ⟨_, pmk_own Fb hq gC kC r hg hdb, fun σ H F G Q k => k _ _ _ F M ⟨C, []⟩ (Same.refl _) G.st ⟨rfl, .inl ⟨rfl, rfl⟩⟩ h⟩
/-- BASE.__init__(self, ..), BASE an own class that has none and so its base's, which is ValueError's -/
theorem pe_base_init {C0 : Addr} {x : Str} {mc : Value} {pl : Sem Bool} {ta : TA} (hg : Gl X x) (hm : X.mg x = some (.ref C0)) (ga : PySem.W.specialIn X.K (.ref C0) "__getattribute__" = some (some (.builtin "type.__getattribute__")))
    (rd : PySem.W.readsIn X.K C0 mc = true) (vV : PySem.W.findCls X.K (.ref C0) mc "__init__" = some (.val (.builtin "ValueError.__init__"))) (ha : PA X (e :: es) ta)
    (hc : eval (.Call (.Attribute (.Name x p1) "__init__" p2) (e :: es) [] pos) X.env = (do
      let ov ← eval (.Name x p1) X.env
      standAt p2.atName
      let (f, first) ← holding [ov] (getMethod ov "__init__" pl)
      callWith pos f first (backTo pos (starEach (e :: es) X.env)) (backToKw pos (keywordEach [] X.env))) := by rfl)
    (he : starEach (e :: es) X.env = (false, eval e X.env) :: starEach es X.env := by rfl) (hpl : (backTo pos (starEach es X.env)).any (·.1) = false := by rfl) (hdb : (x == ("__debug__" : Str)) = false := by decide) :
    PE X (.Call (.Attribute (.Name x p1) "__init__" p2) (e :: es) [] pos) (tVeI X.K ta) := by
  constructor
  intro pins s σ H Q I h
  refine PySem.W.methodCall_KW (ld_glob I hg hm ?_ hdb) hc
  refine PySem.W.method_cls I.kIn ga (PySem.W.cls_value I.kIn rd vV (by decide +kernel) ?_)
  show wpAny _ _ (callWith pos (Value.builtin "ValueError.__init__") [] (backTo pos (starEach (e :: es) X.env)) []) _ _ _
  refine PyProof.Rows.callWith_method1 (thn (ha.run pos pins _ σ H _ (I.tok _) h) fun us s1 hus => ?_) he hpl
  obtain ⟨vs, H1, I1, rv, a, C, ws, ev, hl, T, ea, hQ⟩ := hus
  subst ev
  match us, rv with
  | u0 :: ur, .cons ra rw' =>
    obtain rfl : u0 = Value.ref a := ra
    have fits : ur.length ≤ sizeLine := by rw [← Paired.length rw', sizeLine_eq]; omega
    exact oinit_ok T I1 ea fits fun s' J => ⟨.non, H1, J, rfl, hQ⟩
end
end PW
/-! PWGd -/
namespace PW
open PySem L2 PyProof.Rows
section
variable {X : Cx} {P : XP} {F : Hp} {M : Cells} {δ : Slots} {σ : L2.St} {H : Hp} {e a b c o : Expr} {es : List Expr} {ks : List Keyword} {pos apos cpos p p1 p2 q : Pos} {E : En} {Q : D → Cells → Prop}
theorem gENm {x : Str} (h : WE X P (.Name x p) δ M Q) : WE X P (.Name x p) δ M Q := h
theorem gECn {k : Const} {j} (h : WE X P (.Constant k j p) δ M Q) : WE X P (.Constant k j p) δ M Q := h
theorem gECl (h : WE X P (.Call a es ks p) δ M Q) : WE X P (.Call a es ks p) δ M Q := h
theorem gECm {ops : List CmpOp} (h : WE X P (.Compare a ops es p) δ M Q) : WE X P (.Compare a ops es p) δ M Q := h
theorem gEBi {op : Operator} (h : WE X P (.BinOp a op b p) δ M Q) : WE X P (.BinOp a op b p) δ M Q := h
theorem gESu {j} (h : WE X P (.Subscript a b j) δ M Q) : WE X P (.Subscript a b j) δ M Q := h
theorem gEBo {op : BoolOp} (h : WE X P (.BoolOp op es p) δ M Q) : WE X P (.BoolOp op es p) δ M Q := h
theorem gTCm {ops : List CmpOp} {Q : Bool → Cells → Prop} (h : WT X P (.Compare a ops es p) δ M Q) : WT X P (.Compare a ops es p) δ M Q := h
/-- the name x, a call of x, x set, x a target -/
theorem gN (x : Str) (h : WE X P (.Name x p) δ M Q) : WE X P (.Name x p) δ M Q := h
theorem gC (x : Str) (h : WE X P (.Call (.Name x p) es ks q) δ M Q) : WE X P (.Call (.Name x p) es ks q) δ M Q := h
theorem gCK (x : Str) (h : WE X P (.Call (.Name x p) es [] q) δ M Q) : WE X P (.Call (.Name x p) es [] q) δ M Q := h
theorem gS (x : Str) (h : WS X P (.Assign [.Name x p] e q) δ M E) : WS X P (.Assign [.Name x p] e q) δ M E := h
theorem gG (x : Str) {d : D} {Q : Slots → Cells → Prop} (h : WG X P (.Name x p) d δ M Q) : WG X P (.Name x p) d δ M Q := h
theorem we_nm (i : Nat) {x : Str} {d : D} (hN : X.N[i]? = some x) (hd : δ[i]? = some (some d)) (h : Q d M) (hv : Vis X.env.scope x := by first | exact .inl rfl | exact .inr (.inl rfl) | exact .inr (.inr rfl)) (h1 : (x == ("__debug__" : Str)) = false := by decide) (h2 : (x == ("__classdict__" : Str)) = false := by decide) : WE X P (.Name x pos) δ M Q := we_name hN hv hd h h1 h2
theorem ws_st (i : Nat) {x : Str} {pos' : Pos} (h : WE X P e δ M fun d M' => E.nx (δ.set i (some d)) M') (N : Nice X := by assumption) (hi : X.N[i]? = some x := by exact rfl) (hx : Loc X.env.scope x := by first | exact .inl rfl | exact .inr rfl) (hs : swapsWith e (some (.Name x pos')) pos.line X.env = pure false := by rfl) (hf : X.fn x = true ∨ X.env.scope.names.lookup x = some .local := by first | exact .inl rfl | exact .inr rfl | assumption) : WS X P (.Assign [.Name x pos'] e pos) δ M E := ws_set N hi hx h hs hf
theorem wg_nm (i : Nat) {x : Str} {d : D} {Q : Slots → Cells → Prop} (h : Q (δ.set i (some d)) M) (N : Nice X := by assumption) (hi : X.N[i]? = some x := by exact rfl) (hx : Loc X.env.scope x := by first | exact .inl rfl | exact .inr rfl) (hf : X.fn x = true ∨ X.env.scope.names.lookup x = some .local := by first | exact .inl rfl | exact .inr rfl | assumption) : WG X P (.Name x pos) d δ M Q := wg_name N hi hx h hf
theorem we_cl (x : Str) {k n : Nat} {T : TSp} (h : WA X P (e :: es) δ M fun ds M1 => T ds M1 Q (fun x M' => P x δ M')) (c : FD X.prog X.w X.K X.mg X.base k x n T := by assumption) (hr : Room k X.A := by first | assumption | exact room_le (by assumption) (by decide)) (hg : Gl X x := by exact rfl)
    (hdb : (x == ("__debug__" : Str)) = false := by decide) (he : starEach (e :: es) X.env = (false, eval e X.env) :: starEach es X.env := by rfl) (hpl : (backTo pos (starEach es X.env)).any (·.1) = false := by rfl) : WE X P (.Call (.Name x p) (e :: es) [] pos) δ M Q := we_call c hr hg h hdb he hpl
end
end PW
/-! MBin -/
namespace PW
end PW
/-! MVal -/
namespace PW
end PW
/-! PWT -/
namespace PW
open PySem L2 PyProof.Rows
section
variable {X : Cx} {P : XP} {F : Hp} {M : Cells} {δ : Slots} {σ : L2.St} {H : Hp} {e a b c o : Expr} {es : List Expr} {pos apos cpos p p2 q : Pos}
theorem Stt.setAt {K : PySem.W.Frag} (S : Stt K F M δ σ H) {k : Nat} {a : Addr} {w : World} {f : Int → Bool} {n : Nat} (h : M[k]? = some (a, .set w f n)) : H a = some (SetO w a f n) := S.cell _ (List.mem_of_getElem? h)
/-- sorted(s), s a set of ints: a cell -/
theorem we_sortedS {Q : D → Cells → Prop} (hc : X.calm = true) (hg : Gl X "sorted") (hm : X.mg "sorted" = none)
    (h : WE X P a δ M fun d M1 => ∃ (q : Addr) (k : Nat) (f : Int → Bool) (n : Nat), d = .cel q ∧ M1[k]? = some (q, .set X.w f n) ∧ n < 64 ∧ ∀ (ns : List Int) (p : Addr), ns.Pairwise (· < ·) → (∀ k, k ∈ ns ↔ f k = true) → ns.length = n → Q (.cel p) ((p, .lst (ns.map D.int)) :: M1))
    (he : starEach [a] X.env = (false, eval a X.env) :: starEach [] X.env := by rfl) (hpl : (backTo pos (starEach [] X.env)).any (·.1) = false := by rfl) :
    WE X P (.Call (.Name "sorted" p) [a] [] pos) δ M Q :=
  we_of (pe_callB (cr_sortedSet hc) hg hm (by decide +kernel) (pa_cons pe_sem pa_nil he) (by decide) (by decide) he hpl) fun σ H F G =>
    h.go G fun v H1 F1 M1 d s1 G1 r1 q1 => by
      obtain ⟨q, k, f, n, rfl, hk, hn, q1⟩ := q1
      cases r1
      refine ⟨q, f, n, rfl, G1.st.setAt hk, hn, fun ns p h1 h2 h3 hp => ?_⟩
      exact ret (G1.st.newL hp (Reps.ints ns)) s1 (.cel p) (q1 ns p h1 h2 h3)

def pD (x : Int × Int) : D := .tup [.int x.1, .int x.2]
def LexLe (x y : Int × Int) : Prop := x.1 < y.1 ∨ (x.1 = y.1 ∧ x.2 ≤ y.2)
def PairAt (K : PySem.W.Frag) (H : Hp) (x : V) (i : Int × Int) : Prop := ∃ t, x = .ref t ∧ SqT K H t [.int i.1, .int i.2]
def rSortedP2 (K : PySem.W.Frag) : List V → Hp → VK → Prop := fun vs H Q => ∃ (a : Addr) (xs : List V) (ps : List (Int × Int)), vs = [.ref a] ∧ SqL K H a xs ∧ Paired (PairAt K H) xs ps ∧
  ∀ (zs : List (V × (Int × Int))) (p : Addr), zs.Perm (xs.zip ps) → zs.Pairwise (fun x y => LexLe x.2 y.2) → H p = none → Q (.ref p) (upd H p (.lst (zs.map Prod.fst)))
theorem prd_zip {α β : Type} {R : α → β → Prop} {k : α → β} : ∀ {xs : List α} {ps : List β}, Paired R xs ps → (∀ x p, R x p → p = k x) → xs.zip ps = xs.map fun x => (x, k x)
  | _, _, .nil, _ => rfl
  | _, _, .cons h t, g => by
    rw [List.zip_cons_cons, List.map_cons, prd_zip t g, g _ _ h]
theorem prd_mem {α β : Type} {R : α → β → Prop} : ∀ {xs : List α} {ps : List β}, Paired R xs ps → ∀ x ∈ xs, ∃ p, R x p
  | _, _, .nil, x, h => by cases h
  | _, _, .cons h t, x, hx => by
    rcases List.mem_cons.mp hx with rfl | hx
    · exact ⟨_, h⟩
    · exact prd_mem t x hx
/-- the pair that a value is, by the heap's abstract reading (any, where it is none) -/
noncomputable def pairOf (K : PySem.W.Frag) (H : Hp) (x : V) : Int × Int := open Classical in if h : ∃ p, PairAt K H x p then h.choose else (0, 0)
theorem pairOf_at {pins : List (Addr × Obj)} {s : Shared} (I : Inv X pins σ H s) {x : V} {p : Int × Int} (h : PairAt X.K H x p) : p = pairOf X.K H x := by
  have ex : ∃ p', PairAt X.K H x p' := ⟨p, h⟩
  have e : pairOf X.K H x = ex.choose := dif_pos ex
  rw [e]
  obtain ⟨t, e1, h1⟩ := h
  obtain ⟨t', e2, h2⟩ := ex.choose_spec
  rw [e1] at e2
  cases e2
  have z := I.tuple_inj h1 h2
  simp only [List.cons.injEq, V.int.injEq, and_true] at z
  exact Prod.ext z.1 z.2
/-- such a value in the heap -/
theorem pair_held {pins : List (Addr × Obj)} {s : Shared} (I : Inv X pins σ H s) {t : Addr} {p : Int × Int} (h : PairAt X.K H (.ref t) p) : Srt.IsPair s.heap (.ref t) p.1 p.2 := by
  obtain ⟨t', e, g⟩ := h
  cases e
  obtain ⟨its, rr, ⟨o, o1, o2, n, o3⟩, _⟩ := I.tuple g
  obtain ⟨u, u', e', r1, r2⟩ := vals2 rr
  obtain ⟨k1, rfl⟩ := r1
  obtain ⟨k2, rfl⟩ := r2
  rw [e'] at o3
  exact ⟨t, o, k1, k2, n, rfl, o1, o2, o3⟩
theorem cr_sortedP2 : CallR X (.builtin "sorted") (rSortedP2 X.K) := by
  intro pins s σ H args us Q I r h
  obtain ⟨a, xs, ps, rfl, hs, hx, q⟩ := h
  obtain ⟨its, rv, pl, sz⟩ := I.list hs
  obtain rfl := Vals.ref1 r
  have key : ∀ x ∈ xs, PairAt X.K H x (pairOf X.K H x) := fun x m => by
    obtain ⟨p, hp⟩ := prd_mem hx x m
    rw [← pairOf_at I hp]
    exact hp
  obtain ⟨back, refs⟩ := refs_back rv fun x m => (key x m).imp fun _ z => z.1
  have its_sz : its.length ≤ sizeLine := by rw [← rv.length]; exact sz
  refine SrtO.sorted_pairsO (k := pairOf X.K H ∘ backV) pl.isList its_sz ?_ ?_
  · intro u hu
    obtain ⟨t, e⟩ := refs u hu
    subst e
    refine pair_held I (key _ ?_)
    rw [back]
    exact List.mem_map_of_mem hu
  · intro h2 d out srt stb keeps new laid
    obtain ⟨n, laid⟩ := laid
    have prm : (out.map backV).Perm xs := by
      rw [back]
      exact stb.perm.map backV
    have q2 := q ((out.map backV).map fun x => (x, pairOf X.K H x)) d (by rw [prd_zip hx fun _ _ z => pairOf_at I z]; exact prm.map _) (by
      rw [List.pairwise_map, List.pairwise_map]
      refine List.Pairwise.imp (fun {x y} z => ?_) srt
      have z' := SrtO.lexB_no.mp z
      simp only [Function.comp] at z'
      show (pairOf X.K H (backV x)).1 < (pairOf X.K H (backV y)).1 ∨ ((pairOf X.K H (backV x)).1 = (pairOf X.K H (backV y)).1 ∧ (pairOf X.K H (backV x)).2 ≤ (pairOf X.K H (backV y)).2)
      omega) (I.hok.fresh new)
    have e : ((out.map backV).map fun x => (x, pairOf X.K H x)).map Prod.fst = out.map backV := by simp
    rw [e] at q2
    exact ⟨.ref d, upd H d (.lst (out.map backV)), I.laid (t' := s.toks) keeps new ⟨by rw [prm.length_eq]; exact sz, out, n, vals_back fun u m => refs u (stb.perm.mem_iff.mp m), laid⟩, rfl, q2⟩
theorem reps_pairs {K : PySem.W.Frag} (s : Same F H) : ∀ {ps : List (Int × Int)} {vs : List V}, Reps K F vs (ps.map pD) → Paired (PairAt K H) vs ps
  | [], _, h => by cases h; exact .nil
  | p :: ps, _, h => by
    cases h with
    | cons a b =>
      refine .cons ?_ (reps_pairs s b)
      cases a with
      | tup h1 h2 =>
        cases h2 with
        | cons r1 r2 =>
          cases r2 with
          | cons r2 r3 =>
            cases r1; cases r2; cases r3
            exact ⟨_, rfl, Same.tup s h1⟩
theorem reps_zip {K : PySem.W.Frag} {f : Int × Int → D} : ∀ {ps : List (Int × Int)} {vs : List V}, Reps K F vs (ps.map f) → ∀ z ∈ vs.zip ps, Rep K F z.1 (f z.2)
  | [], _, h, z, hz => by simp at hz
  | p :: ps, _, h, z, hz => by
    cases h with
    | cons a b =>
      rw [List.zip_cons_cons] at hz
      rcases List.mem_cons.mp hz with rfl | hz
      · exact a
      · exact reps_zip b z hz
theorem reps_of_mem {K : PySem.W.Frag} {α : Type} {g : α → V} {f : α → D} : ∀ {zs : List α}, (∀ z ∈ zs, Rep K F (g z) (f z)) → Reps K F (zs.map g) (zs.map f)
  | [], _ => .nil
  | z :: zs, h => .cons (h z List.mem_cons_self) (reps_of_mem fun y hy => h y (List.mem_cons_of_mem _ hy))
/-- sorted(xs), xs a list of pairs: a new list, frozen -/
theorem we_sortedP {Q : D → Cells → Prop} (hg : Gl X "sorted") (hm : X.mg "sorted" = none)
    (h : WE X P a δ M fun d M1 => ∃ ps : List (Int × Int), LV M1 d (ps.map pD) ∧ ∀ qs : List (Int × Int), qs.Perm ps → qs.Pairwise LexLe → Q (.lst (qs.map pD)) M1)
    (he : starEach [a] X.env = (false, eval a X.env) :: starEach [] X.env := by rfl) (hpl : (backTo pos (starEach [] X.env)).any (·.1) = false := by rfl) :
    WE X P (.Call (.Name "sorted" p) [a] [] pos) δ M Q :=
  we_of (pe_callB cr_sortedP2 hg hm (by decide +kernel) (pa_cons pe_sem pa_nil he) (by decide) (by decide) he hpl) fun σ H F G =>
    h.go G fun v H1 F1 M1 d s1 G1 r1 q1 => by
      obtain ⟨ps, hl, q1⟩ := q1
      obtain ⟨l, vs, rfl, e1, e2⟩ := G1.st.readL r1 hl
      refine ⟨l, vs, ps, rfl, e1, reps_pairs G1.st.le e2, fun zs p h1 h2 hp => ?_⟩
      have hln : vs.length = ps.length := by rw [e2.length, List.length_map]
      have q2 := q1 (zs.map Prod.snd) (by
        have := h1.map Prod.snd
        rw [List.map_snd_zip (by omega)] at this
        exact this) (List.pairwise_map.mpr h2)
      obtain ⟨S, s2⟩ := G1.st.froz (o := .lst (zs.map Prod.fst)) hp
      refine ret S (s1.trans s2) (.lst (.of upd_same) ?_) q2
      rw [List.map_map]
      exact reps_of_mem fun z hz => (reps_zip e2 z (h1.mem_iff.mp hz)).up s2
end
end PW
/-! PWU -/
namespace PW
open PySem L2 PyProof.Rows
def itemD (x : Int × Int) : D := .tup [.int x.1, .int x.2]
def bookD (xs : List (Int × Int)) : List D := xs.map itemD
section
variable {X : Cx} {P : XP} {F : Hp} {M : Cells} {δ : Slots} {σ : L2.St} {H : Hp} {e : Expr}
theorem wb_drop {b : List Stmt} {E : En} {M0 : Cells} (hM : M0.Sublist M) (h : WB X P b δ M0 E) : WB X P b δ M E := fun σ H F G => h σ H F ⟨G.st.fewer hM, G.tk⟩
end
theorem okDs_book : ∀ xs : List (Int × Int), okDs (bookD xs) = true
  | [] => rfl
  | x :: xs => by
    show (okD (itemD x) && okDs (bookD xs)) = true
    rw [okDs_book xs]
    rfl
theorem lay_book : ∀ xs : List (Int × Int), PyData.canLayAll0 (pys (bookD xs)) = true
  | [] => by simp [bookD, pys, PyData.canLayAll0]
  | x :: xs => by
    show (PyData.canLayAll0 (.tuple [.int x.1, .int x.2] :: pys (bookD xs))) = true
    simp [PyData.canLayAll0, PyData.canLay0, lay_book xs]
theorem dep_book : ∀ xs : List (Int × Int), PyData.depthAll (pys (bookD xs)) ≤ 4
  | [] => by simp [bookD, pys, PyData.depthAll]
  | x :: xs => by
    have := dep_book xs
    show PyData.depthAll (.tuple [.int x.1, .int x.2] :: pys (bookD xs)) ≤ 4
    simp only [PyData.depthAll, PyData.depth]
    omega
theorem shaped_list {xs : List PyData} (h1 : PyData.canLayAll0 xs = true) (h2 : PyData.depthAll xs ≤ 60) : SeqAt.shaped (.list xs) = true := by
  have h3 : PyData.depth (.list xs) ≤ 64 := by simp only [PyData.depth]; omega
  unfold SeqAt.shaped
  rw [Bool.and_eq_true]
  exact ⟨by simp only [PyData.canLay0]; exact h1, decide_eq_true h3⟩
theorem shaped_book (xs : List (Int × Int)) : SeqAt.shaped (.list (pys (bookD xs))) = true := shaped_list (lay_book xs) (Nat.le_trans (dep_book xs) (by decide))
theorem prd_map {α β γ : Type} {R : β → γ → Prop} {f : α → β} {g : α → γ} : ∀ {xs : List α}, (∀ x ∈ xs, R (f x) (g x)) → Paired R (xs.map f) (xs.map g)
  | [], _ => .nil
  | x :: xs, h => .cons (h x (List.mem_cons_self ..)) (prd_map fun y hy => h y (List.mem_cons_of_mem _ hy))
theorem prd_len {α β : Type} {R : α → β → Prop} : ∀ {a : List α} {b : List β}, Paired R a b → a.length = b.length
  | _, _, .nil => rfl
  | _, _, .cons r t => by simp [prd_len t]
theorem alk_s {M : Cells} {n : Nat} {d e : D} {t : String} {ds es : List D} (h1 : Sq M d t ds) (h2 : Sq M e t es) (hz : es.length ≤ 1000000) (h : Paired (Alk M n) ds es) : Alk M (n + 1) d e :=
  .seq h1 h2 (prd_len h) hz fun i a b ha hb => by
    obtain ⟨u, h3, h4⟩ := prd_some h ha
    rw [hb] at h3
    cases h3
    exact h4
theorem alk_l {M : Cells} {n : Nat} {d e : D} {ds es : List D} (h1 : LV M d ds) (h2 : LV M e es) (hz : es.length ≤ 1000000) (h : Paired (Alk M n) ds es) : Alk M (n + 1) d e := alk_s (.inl ⟨rfl, h1⟩) (.inl ⟨rfl, h2⟩) hz h
theorem alk_t {M : Cells} {n : Nat} {ds es : List D} (hz : es.length ≤ 1000000) (h : Paired (Alk M n) ds es) : Alk M (n + 1) (.tup ds) (.tup es) := alk_s (.inr ⟨rfl, rfl⟩) (.inr ⟨rfl, rfl⟩) hz h
theorem alk_book {M : Cells} {n : Nat} {d e : D} {zs : List (Int × Int)} (h1 : LV M d (bookD zs)) (h2 : LV M e (bookD zs)) (hz : zs.length ≤ 1000) : Alk M (n + 2) d e := alk_l h1 h2 (by unfold bookD; rw [List.length_map]; omega) (prd_map fun x _ => alk_t (by show 2 ≤ 1000000; decide) (.cons (.int _) (.cons (.int _) .nil)))
theorem okDs_ints : ∀ xs : List Int, okDs (xs.map D.int) = true
  | [] => rfl
  | x :: xs => by show (true && okDs (xs.map D.int)) = true; rw [okDs_ints xs]; rfl
theorem lay_ints : ∀ xs : List Int, PyData.canLayAll0 (pys (xs.map D.int)) = true ∧ PyData.depthAll (pys (xs.map D.int)) ≤ 4
  | [] => by simp [pys, PyData.canLayAll0, PyData.depthAll]
  | x :: xs => by
    have := lay_ints xs
    show PyData.canLayAll0 (.int x :: pys (xs.map D.int)) = true ∧ PyData.depthAll (.int x :: pys (xs.map D.int)) ≤ 4
    simp only [PyData.depthAll, PyData.depth, PyData.canLayAll0, PyData.canLay0, this.1]
    exact ⟨rfl, by omega⟩
section
variable {X : Cx} {P : XP} {F : Hp} {M : Cells} {δ : Slots} {σ : L2.St} {H : Hp} {a : Expr} {pos p : Pos}
end
theorem CL.imp {M : Cells} {b : Addr} {R R' : List D → (List D → Cells) → Prop} (h : CL M b R) (k : ∀ L f, R L f → R' L f) : CL M b R' := let ⟨i, L, h1, h2⟩ := h; ⟨i, L, h1, k _ _ h2⟩
theorem shaped_ints (xs : List Int) : SeqAt.shaped (.list (pys (xs.map D.int))) = true := shaped_list (lay_ints xs).1 (Nat.le_trans (lay_ints xs).2 (by decide))
end PW
/-! PWV -/
namespace PW
open PySem L2 PyProof.Rows
section
variable {X : Cx} {P : XP} {F : Hp} {M : Cells} {δ : Slots} {σ : L2.St} {H : Hp} {e a b c o : Expr} {es : List Expr} {pos pos' p p1 p2 p3 q : Pos}
/-- lists of ints: the same, or not -/
theorem eqv_ints : ∀ {xs ys : List Int}, PyData.eqv (.list (pys (xs.map D.int))) (.list (pys (ys.map D.int))) = decide (xs = ys)
  | [], [] => rfl
  | [], y :: ys => (decide_eq_false (by simp)).symm
  | x :: xs, [] => (decide_eq_false (by simp)).symm
  | x :: xs, y :: ys => by
    have ih := eqv_ints (xs := xs) (ys := ys)
    by_cases h : x :: xs = y :: ys
    · rw [h, decide_eq_true rfl, PySem.SeqAt.eqv_refl _ (SeqAt.canLay_of_shaped (shaped_ints _))]
    · rw [decide_eq_false h]
      show (PyData.eqv (.int x) (.int y) && PyData.eqv (.list (pys (xs.map D.int))) (.list (pys (ys.map D.int)))) = false
      rw [ih]
      show (decide (x = y) && _) = false
      by_cases h1 : x = y
      · subst h1
        have h2 : ¬ xs = ys := fun z => h (by rw [z])
        simp [h2]
      · simp [h1]
theorem req_intsN {d e : D} {xs ys : List Int} {Q : D → Cells → Prop} (h1 : LV M d (xs.map D.int)) (h2 : LV M e (ys.map D.int)) (q : Q (.bl (!decide (xs = ys))) M) : REq true d e M Q := by
  have hv : ∀ {d : D} {zs : List Int}, LV M d (zs.map D.int) → PV M d (.list (pys (zs.map D.int))) := fun {d zs} h => by
    rcases h with rfl | ⟨k, a, rfl, h⟩
    · exact .fz (okDs_ints _)
    · exact .cl k h (okDs_ints _)
  refine req_dN (hv h1) (hv h2) (shaped_ints _) (shaped_ints _) ?_
  rw [eqv_ints]
  exact q
end
end PW
/-! PWX -/
namespace PW
open PySem L2 PyProof.Rows
section
variable {X : Cx} {P : XP} {F : Hp} {M : Cells} {δ : Slots} {σ : L2.St} {H : Hp} {e : Expr} {pos : Pos} {E : En}
/-- a plain assignment where an exception is handled -/
theorem ws_setS {i : Nat} {x : Str} {pos' : Pos} (N : X.N.Nodup) (hi : X.N[i]? = some x) (hx : Loc X.env.scope x) (h : WE X P e δ M fun d M' => E.nx (δ.set i (some d)) M') (hs : swapsWith e (some (.Name x pos')) pos.line X.env = pure false := by rfl) (hf : X.fn x = true ∨ X.env.scope.names.lookup x = some .local := by first | exact .inl rfl | exact .inr rfl | assumption) :
    WS X P (.Assign [.Name x pos'] e pos) δ M E :=
  ws_of (ps_set N hi hx pe_sem hs hf) fun σ H F G => h.go G fun v H' F' M' d s G' r q => nx_ (G'.st.setSlot r) s q
end
end PW
/-! PWR -/
namespace PW
open PySem L2 PyProof.Rows
mutual
inductive RP (M : Cells) : D → PyData → Prop
  | non : RP M .non .none
  | bl (b : Bool) : RP M (.bl b) (.bool b)
  | int (i : Int) : RP M (.int i) (.int i)
  | str (x : Str) : RP M (.str x) (.str x)
  | tup {ds : List D} {qs : List PyData} : RPs M ds qs → RP M (.tup ds) (.tuple qs)
  | lst {ds : List D} {qs : List PyData} : RPs M ds qs → RP M (.lst ds) (.list qs)
  | cel {k : Nat} {a : Addr} {ds : List D} {qs : List PyData} : M[k]? = some (a, .lst ds) → RPs M ds qs → RP M (.cel a) (.list qs)
inductive RPs (M : Cells) : List D → List PyData → Prop
  | nil : RPs M [] []
  | cons {d : D} {q : PyData} {ds : List D} {qs : List PyData} : RP M d q → RPs M ds qs → RPs M (d :: ds) (q :: qs)
end
theorem RPs.ints {M : Cells} : ∀ ns : List Int, RPs M (ns.map D.int) (ns.map PyData.int)
  | [] => .nil
  | n :: ns => .cons (.int n) (RPs.ints ns)
section
variable {K : PySem.W.Frag} {F H : Hp} {M : Cells} {δ : Slots} {σ : L2.St}
mutual
theorem Stt.readN (S : Stt K F M δ σ H) : ∀ (q : PyData) (d : D) (v : V), RP M d q → Rep K F v d → Dp K H v q
  | .none, _, _, h, r => by cases h; cases r; exact .non
  | .bool _, _, _, h, r => by cases h; cases r; exact .bl _
  | .int _, _, _, h, r => by cases h; cases r; exact .int _
  | .str _, _, _, h, r => by cases h; cases r; exact .str _
  | .tuple qs, _, _, h, r => by
    cases h with | tup h1 => cases r with | tup a b => exact .tup (Same.tup S.le a) (Stt.readNs S qs _ _ h1 b)
  | .list qs, _, _, h, r => by
    cases h with
    | lst h1 => cases r with | lst a b => exact .lst (S.le.seq a) (Stt.readNs S qs _ _ h1 b)
    | cel e h1 =>
      cases r
      obtain ⟨vs, e1, _, e3⟩ := S.cellAt (List.mem_of_getElem? e)
      exact .lst (.of e1) (Stt.readNs S qs _ _ h1 e3)
  | .dict _, _, _, h, _ => by cases h
theorem Stt.readNs (S : Stt K F M δ σ H) : ∀ (qs : List PyData) (ds : List D) (vs : List V), RPs M ds qs → Reps K F vs ds → DpAll K H vs qs
  | [], _, _, h, r => by cases h; cases r; exact .nil
  | q :: qs, _, _, h, r => by cases h with | cons h1 h2 => cases r with | cons a b => exact .cons (Stt.readN S q _ _ h1 a) (Stt.readNs S qs _ _ h2 b)
end
mutual
theorem dp_noDict : ∀ (d : PyData) (v : V), Dp K H v d → d.hasDict = false
  | .none, _, _ => by simp only [PyData.hasDict]
  | .bool _, _, _ => by simp only [PyData.hasDict]
  | .int _, _, _ => by simp only [PyData.hasDict]
  | .str _, _, _ => by simp only [PyData.hasDict]
  | .list xs, _, h => by cases h with | lst _ a => simp only [PyData.hasDict]; exact dps_noDict xs _ a
  | .tuple xs, _, h => by cases h with | tup _ a => simp only [PyData.hasDict]; exact dps_noDict xs _ a
  | .dict _, _, h => by cases h
theorem dps_noDict : ∀ (ds : List PyData) (vs : List V), DpAll K H vs ds → PyData.hasDictAll ds = false
  | [], _, _ => by simp only [PyData.hasDictAll]
  | d :: ds, _, h => by
    cases h with | cons a b => simp only [PyData.hasDictAll, dp_noDict d _ a, dps_noDict ds _ b]; rfl
end
end
section
variable {X : Cx} {P : XP} {F : Hp} {M : Cells} {δ : Slots} {σ : L2.St} {H : Hp} {e a b c o : Expr} {es : List Expr} {pos apos cpos p p2 : Pos}
end
section
variable {P : Program} {w : World} {K : PySem.W.Frag} {mg : Str → Option Value} {base : Heap}
end
section
variable {X : Cx} {P : XP} {F : Hp} {M : Cells} {δ : Slots} {σ : L2.St} {H : Hp} {e a b c o : Expr} {es : List Expr} {pos apos cpos p p2 : Pos}
end
section
variable {P : Program} {w : World} {K : PySem.W.Frag} {mg mb : Str → Option Value} {CX : CXT} {fa a : Addr} {fd : FuncData} {x : Str} {sp : Sp} {s₁ : Shared} {vs : List Value} {ns : List Int}
end
end PW
/-! PWQ -/
set_option exponentiation.threshold 100000
namespace PW
open PySem L2 PyProof.Rows
section
variable {prog : Program} {w : World}
end
section
variable {X : Cx} {P : XP} {F : Hp} {M : Cells} {δ : Slots} {σ : L2.St} {H : Hp} {e : Expr} {pos p : Pos}
end
section
variable {P : Program} {w : World} {K : PySem.W.Frag} {mg mb : Str → Option Value} {CX : CXT} {fa a : Addr} {fd : FuncData} {x : Str} {sp : Sp} {s₁ : Shared} {vs : List Value} {ns : List Int}
end
end PW
/-! PWP -/
set_option exponentiation.threshold 100000
namespace PW
open PySem L2 PyProof.Rows
section
variable {X : Cx} {P : XP} {F : Hp} {M : Cells} {δ : Slots} {σ : L2.St} {H : Hp} {e : Expr} {pos p : Pos}
end
end PW
/-! PWO -/
namespace PW
open PySem L2 PyProof.Rows
section
variable {X : Cx} {P : XP} {F : Hp} {M : Cells} {δ : Slots} {σ : L2.St} {H : Hp} {a b : Expr} {pos p : Pos}
end
end PW
/-! PWL -/
set_option exponentiation.threshold 100000
namespace PW
open PySem L2 PyProof.Rows
section
variable {X : Cx} {P : XP} {F : Hp} {M : Cells} {δ : Slots} {σ : L2.St} {H : Hp} {a b e : Expr} {pos p : Pos}
end
end PW
/-! PWD -/
namespace PW
open PySem L2 PyProof.Rows
section
variable {P : Program} {w : World} {K : PySem.W.Frag} {mg : Str → Option Value} {base : Heap}
end
section
variable {X : Cx} {P : XP} {F : Hp} {M : Cells} {δ : Slots} {σ : L2.St} {H : Hp} {e a b c o : Expr} {es : List Expr} {pos apos cpos p p2 : Pos}
end
end PW
/-! PWE -/
namespace PW
open PySem L2 PyProof.Rows
/-- an own error class whose __init__ stands at fI -/
structure ExcI (K : PySem.W.Frag) (mg : Str → Option Value) (x : Str) (C fI : Addr) (fs : List Str) : Prop where
  g : mg x = some (.ref C)
  T : L2.OexC K C
  F : L2.XfC K C
  iC : PySem.W.findIn K (.ref C) "__init__" = some (some (.ref fI))
  tI : PySem.W.typeIn K (.ref fI) = some (.type "function")
  no : ∀ f ∈ fs, PySem.W.findIn K (.ref C) f = some none
  e : PySem.W.exmOne K (.ref C) (.ref C) = some true
/-- the base class, which has no __init__ of its own -/
structure BasI (K : PySem.W.Frag) (mg : Str → Option Value) (x : Str) (C : Addr) (mc : Value) : Prop where
  g : mg x = some (.ref C)
  a : PySem.W.specialIn K (.ref C) "__getattribute__" = some (some (.builtin "type.__getattribute__"))
  r : PySem.W.readsIn K C mc = true
  v : PySem.W.findCls K (.ref C) mc "__init__" = some (.val (.builtin "ValueError.__init__"))
def spIni1 (C : Addr) (f1 : Str) : Sp := fun vs H Q _ => ∃ (a : Addr) (v1 : V), vs = [.ref a, v1] ∧ H a = some (exo a C none) ∧ ∀ dx, H dx = none → dx ≠ a → Q .non (upd (upd H dx (exd dx [(f1, v1)])) a (exo a C (some dx)))
theorem heap_ini {H : Hp} {a C dx : Addr} {o1 o2 : HO} {fs : List (Str × V)} (ha : H a = none) (hne : dx ≠ a) : upd (del (upd (upd (upd H a o1) dx o2) a (exo a C (some dx))) a) dx (.xd fs) = upd H dx (.xd fs) := by
  funext b
  by_cases h1 : b = dx
  · subst h1; rw [upd_same, upd_same]
  · rw [upd_ne h1, upd_ne h1]
    by_cases h2 : b = a
    · subst h2; rw [del_same, ha]
    · rw [del_ne h2, upd_ne h2, upd_ne h1, upd_ne h2]
section
variable {X : Cx} {P : XP} {F : Hp} {M : Cells} {δ : Slots} {σ : L2.St} {H : Hp} {e e1 e2 : Expr} {es : List Expr} {pos p : Pos} {E : En} {R : Ex → Cells → Prop}
/-- C(e) -/
theorem wm_ini1 {x : Str} {C fI : Addr} {f1 : Str} {fd : FuncData} {ps : List Str} (c : ExcI X.K X.mg x C fI [f1]) (Fi : FnOk X.prog X.w X.K X.mg X.base (L2.CX X.prog X.w) 1 fI fd ps (spIni1 C f1)) (hb : Binds X.K fd ps []) (hr : Room 2 X.A) (hg : Gl X x)
    (h : WA X P [e1] δ M fun ds M' => ∃ i : Int, ds = [.int i] ∧ R ⟨C, [(f1, .int i)]⟩ M') (hdb : (x == ("__debug__" : Str)) = false := by decide)
    (he : starEach [e1] X.env = (false, eval e1 X.env) :: starEach [] X.env := by rfl) (hpl : (backTo pos (starEach [] X.env)).any (·.1) = false := by rfl) : WM X P (.Call (.Name x p) [e1] [] pos) δ M R :=
  ⟨_, pmk_oex c.T c.iC c.tI Fi hr hb .nil passL hg c.g pa_sem hdb he hpl, fun σ H F G Q k => h.go G fun vs H1 F1 M1 ds s1 G1 r1 q1 => by
    obtain ⟨i, rfl, q⟩ := q1
    obtain ⟨v1, rfl, a1⟩ := r1.one
    cases a1
    refine ⟨by simp, fun a ha => ⟨a, .int i, rfl, upd_same, fun dx hdx hne => ⟨rfl, dx, [(f1, .int i)], upd_same, ?_, ?_, ?_⟩⟩⟩
    · rw [upd_ne hne, upd_same]
    · rwa [upd_ne hne] at hdx
    · rw [upd_ne hne] at hdx
      rw [heap_ini ha hne]
      obtain ⟨S, s2⟩ := G1.st.froz (o := .xd [(f1, .int i)]) hdx
      exact k _ _ _ _ _ ⟨C, [(f1, .int i)]⟩ (s1.trans s2) S ⟨rfl, .inr ⟨dx, _, rfl, upd_same, .cons ⟨rfl, .int i⟩ .nil⟩⟩ q⟩
end
def fsD (fs : List (Str × Int)) : List (Str × D) := fs.map fun p => (p.1, .int p.2)
theorem fs_inv {K : PySem.W.Frag} {F : Hp} : ∀ {fs : List (Str × Int)} {vs : List (Str × V)}, FsIs K F vs (fsD fs) → vs = fs.map fun p => (p.1, V.int p.2)
  | [], _, h => by cases h; rfl
  | p :: fs, vs, h => by
    have h' : FsIs K F vs ((p.1, .int p.2) :: fsD fs) := h
    cases h' with
    | @cons a _ l _ r t =>
      obtain ⟨x, v⟩ := a
      obtain ⟨e, r⟩ := r
      cases r
      rw [fs_inv t]
      cases e
      rfl
theorem Stt.pin {K : PySem.W.Frag} {F : Hp} {M : Cells} {δ : Slots} {σ : L2.St} {H : Hp} (S : Stt K F M δ σ H) {dd : Addr} {vs : List (Str × V)} (h : H dd = some (.xd vs)) : ∃ F', Same F F' ∧ Stt K F' M δ σ H ∧ F' dd = some (.xd vs) := by
  have s : Same F (upd F dd (.xd vs)) := fun b u e => by
    by_cases hb : b = dd
    · subst hb; rw [upd_same, ← h]; exact S.le _ _ e
    · rw [upd_ne hb]; exact e
  refine ⟨_, s, ⟨fun b u e => ?_, S.nd, fun p hp => (S.cell p hp).mono s rfl, fun p hp => ?_, fun i d e => ?_, S.dlen⟩, upd_same⟩
  · by_cases hb : b = dd
    · subst hb; rw [upd_same] at e; rw [h]; exact e
    · rw [upd_ne hb] at e; exact S.le b u e
  · have hne : p.1 ≠ dd := fun z => by
      have c := S.cell p hp
      obtain ⟨a, c0⟩ := p
      obtain rfl : a = dd := z
      cases c0 with
      | lst ds => obtain ⟨vs', h1, _⟩ := c; rw [h] at h1; cases h1
      | dct kvs => obtain ⟨vs', h1, _⟩ := c; rw [h] at h1; cases h1
      | set w f n => have c' : H a = some (SetO w a f n) := c; rw [h] at c'; cases c'
      | ins C dx fs => obtain ⟨⟨vs', h1, _⟩, _⟩ := c; rw [h] at h1; cases h1
    rw [upd_ne hne]; exact S.out p hp
  · obtain ⟨v, h1, h2⟩ := S.slot i d e
    exact ⟨v, h1, h2.up s⟩
section
variable {X : Cx} {P : XP} {F : Hp} {M : Cells} {δ : Slots} {σ : L2.St} {H : Hp} {e : Expr} {pos : Pos} {E : En}
end
end PW
/-! PWF -/
namespace PW
open PySem L2 PyProof.Rows
section
variable {X : Cx} {P : XP} {F : Hp} {M : Cells} {δ : Slots} {σ : L2.St} {H : Hp} {a b : Expr} {pos p : Pos}
theorem Room.u65 {k : Nat} {A : Around} (r : Room k A) : A.units + 65 < cLine := by have := r.un; omega
end
theorem eqv_pair (a b c d : Int) : PyData.eqv (py (.tup [.int a, .int b])) (py (.tup [.int c, .int d])) = decide ((a, b) = (c, d)) := by
  show (decide (a = c) && (decide (b = d) && true)) = _
  by_cases h1 : a = c <;> by_cases h2 : b = d <;> simp [h1, h2]
theorem any_pairs (c d : Int) : ∀ xs : List (Int × Int), (pys (bookD xs)).any (fun z => PyData.eqv z (py (.tup [.int c, .int d]))) = decide ((c, d) ∈ xs)
  | [] => by simp [bookD, pys]
  | x :: xs => by
    show (PyData.eqv (py (.tup [.int x.1, .int x.2])) (py (.tup [.int c, .int d])) || (pys (bookD xs)).any _) = _
    rw [eqv_pair, any_pairs c d xs, Bool.eq_iff_iff, Bool.or_eq_true, decide_eq_true_iff, decide_eq_true_iff, decide_eq_true_iff, List.mem_cons]
    constructor
    · rintro (h | h)
      · exact .inl h.symm
      · exact .inr h
    · rintro (h | h)
      · exact .inl h.symm
      · exact .inr h
end PW
/-! PWG -/
namespace PW
open PySem PySem.Spec L2 PyProof.Rows
section
variable {prog : Program} {w : World} {A : Around} {R : Result → Shared → Prop} {I S : Addr} {res : Value} {n : Nat}
end
section
variable {prog : Program} {w : World} {A : Around} {E : Value → Shared → Prop} {s : Shared} {I : Addr} {T : String}
end
section
variable {X : Cx} {P : XP} {F : Hp} {M : Cells} {δ : Slots} {σ : L2.St} {H : Hp} {a b : Expr} {pos p pos2 p2 : Pos}
end
end PW
/-! PWH -/
namespace PW
open PySem PySem.Spec L2 PyProof.Rows
section
variable {X : Cx} {P : XP} {F : Hp} {M : Cells} {δ : Slots} {σ : L2.St} {H : Hp} {a : Expr} {pos p pos2 p2 : Pos}
end
end PW
/-! PWI -/
namespace PW
open PySem PySem.Spec L2 PyProof.Rows
section
variable {X : Cx} {P : XP} {F : Hp} {M : Cells} {δ : Slots} {σ : L2.St} {H : Hp} {a : Expr} {pos p p2 q : Pos}
end
end PW
/-! PWJ -/
namespace PW
open PySem L2 PyProof.Rows
section
variable {X : Cx} {P : XP} {F : Hp} {M : Cells} {δ : Slots} {σ : L2.St} {H : Hp} {e a b c o : Expr} {es : List Expr} {pos pos' p p1 q apos cpos : Pos}
end
end PW
/-! PWK -/
namespace PW
open PySem PySem.Spec L2 PyProof.Rows
section
variable {P : Program} {w : World} {A : Around} {E : Value → Shared → Prop} {s : Shared}
end
section
variable {X : Cx} {P : XP} {F : Hp} {M : Cells} {δ : Slots} {σ : L2.St} {H : Hp} {a : Expr} {pos p p2 q : Pos}
end
end PW
/-! PWT2 -/
namespace PW
open PySem PySem.Spec L2 PyProof.Rows
/-- the ends of a suite that has a name, which goes behind it -/
def endsAs (i : Nat) (D : L2.Ends) : L2.Ends := ⟨fun τ G => D.nx (τ.set i none) G, D.rt, fun τ G => D.bk (τ.set i none) G, fun τ G => D.ct (τ.set i none) G⟩
section
variable {X : Cx} {xa xb n : Str} {ca cb : Value} {i : Nat} {body sa sb : List Stmt} {a₀ b₀ : Stmt} {na nb pa pb pos : Pos} {tb : WX → TS} {ta tc : Addr → Value → Option Addr → TS}
end
end PW
namespace PW
open PySem L2 PyProof.Rows
/-- an own error class without an __init__ of its own -/
structure ExcN (K : PySem.W.Frag) (mg : Str → Option Value) (x : Str) (C : Addr) : Prop where
  g : mg x = some (.ref C)
  q : PySem.W.excIn K C [.type "ValueError", .type "Exception", .type "BaseException", .type "object"] "ValueError.__new__" = true
  k : PySem.W.keepIn K (.ref C) = true
  b : PySem.W.subIn K (.ref C) (.type "BaseException") = some true
  t : PySem.W.typeIn K (.ref C) = some (.type "type")
  e : PySem.W.exmOne K (.ref C) (.ref C) = some true
section
variable {X : Cx} {P : XP} {F : Hp} {M : Cells} {δ : Slots} {σ : L2.St} {H : Hp} {E : En}
/-- what is behind a suite with a name: the slot is empty -/
def EnAs (i : Nat) (E : En) : En := { nx := fun δ2 M2 => E.nx (δ2.set i none) M2, rt := E.rt, bk := fun δ2 M2 => E.bk (δ2.set i none) M2, ct := fun δ2 M2 => E.ct (δ2.set i none) M2 }
theorem drop_slot {K : PySem.W.Frag} {i : Nat} (S : Stt K F M δ σ H) : Stt K F M (δ.set i none) (σ.set i none) H := S.slots (by simp [S.dlen]) fun j d e => by
  rcases getElem?_set_cases e with ⟨_, y⟩ | ⟨hj, e⟩
  · cases y
  · obtain ⟨v, g1, g2⟩ := S.slot j d e
    exact ⟨v, by rw [List.getElem?_set_ne (Ne.symm hj)]; exact g1, g2⟩
theorem upEn_as {K : PySem.W.Frag} {i : Nat} {F0 : Hp} (s : Same F0 F) : EnLe (upEn K F (EnAs i E)) (endsAs i (upEn K F0 E)) :=
  ⟨fun _ _ ⟨F3, M3, δ3, s3, S4, q3⟩ => ⟨F3, M3, δ3.set i none, s.trans s3, drop_slot S4, q3⟩, fun _ _ q => upR.base s q, fun _ _ ⟨F3, M3, δ3, s3, S4, q3⟩ => ⟨F3, M3, δ3.set i none, s.trans s3, drop_slot S4, q3⟩, fun _ _ ⟨F3, M3, δ3, s3, S4, q3⟩ => ⟨F3, M3, δ3.set i none, s.trans s3, drop_slot S4, q3⟩⟩
end
end PW
namespace PW
open PySem PySem.Spec L2 PyProof.Rows
section
variable {X : Cx} {P : XP} {F : Hp} {M : Cells} {δ : Slots} {σ : L2.St} {H : Hp} {e : Expr} {k : Nat} {p1 p2 pos : Pos}
end
end PW
namespace PW
open PySem L2 PyProof.Rows
section
variable {X : Cx} {P : XP} {F : Hp} {M : Cells} {δ : Slots} {σ : L2.St} {H : Hp} {a : Expr} {p pos : Pos}
end
end PW
/-! PWOb -/
namespace PW
open PySem L2 PyProof.Rows
def putD (f : Str) (v : D) : List (Str × D) → List (Str × D)
  | [] => [(f, v)]
  | (g, x) :: r => if g = f then (g, v) :: r else (g, x) :: putD f v r
section
variable {K : PySem.W.Frag} {F : Hp}
theorem AVs.look {f : Str} {d : D} : ∀ {vs : List (Str × V)} {fs : List (Str × D)}, AVs K F vs fs → fs.lookup f = some d → ∃ v, vs.lookup f = some v ∧ Rep K F v d
  | [], [], .nil, h => by cases h
  | (x, v) :: vs, (y, e) :: fs, .cons ⟨h1, h2⟩ t, h => by
    have h1 : x = y := h1
    subst h1
    rw [List.lookup_cons] at h ⊢
    cases hc : f == x with
    | true => rw [hc] at h; cases h; exact ⟨v, rfl, h2⟩
    | false => rw [hc] at h; exact AVs.look t h
theorem AVs.lookN {f : Str} : ∀ {vs : List (Str × V)} {fs : List (Str × D)}, AVs K F vs fs → fs.lookup f = none → vs.lookup f = none
  | [], [], .nil, h => rfl
  | (x, v) :: vs, (y, e) :: fs, .cons ⟨h1, h2⟩ t, h => by
    have h1 : x = y := h1
    subst h1
    rw [List.lookup_cons] at h ⊢
    cases hc : f == x with
    | true => rw [hc] at h; cases h
    | false => rw [hc] at h; exact AVs.lookN t h
theorem AVs.put {f : Str} {v : V} {d : D} (r : Rep K F v d) : ∀ {vs : List (Str × V)} {fs : List (Str × D)}, AVs K F vs fs → AVs K F (putF f v vs) (putD f d fs)
  | [], [], .nil => .cons ⟨rfl, r⟩ .nil
  | (x, w) :: vs, (y, e) :: fs, .cons ⟨h1, h2⟩ t => by
    have h1 : x = y := h1
    subst h1
    show AVs K F (if x = f then (x, v) :: vs else (x, w) :: putF f v vs) (if x = f then (x, d) :: fs else (x, e) :: putD f d fs)
    by_cases hx : x = f
    · rw [if_pos hx, if_pos hx]; exact .cons ⟨rfl, r⟩ t
    · rw [if_neg hx, if_neg hx]; exact .cons ⟨rfl, h2⟩ (AVs.put r t)
theorem AVs.len : ∀ {vs : List (Str × V)} {fs : List (Str × D)}, AVs K F vs fs → vs.length = fs.length
  | [], [], .nil => rfl
  | _ :: _, _ :: _, .cons _ t => by simp [AVs.len t]
end
/-- a class whose instances bear plain attributes -/
structure ObC (K : PySem.W.Frag) (C : Addr) (fs : List Str) : Prop where
  c : Cls K C
  n : ∀ f ∈ fs, NoAttr K C f
section
variable {X : Cx} {P : XP} {F : Hp} {M : Cells} {δ : Slots} {σ : L2.St} {H : Hp} {e o v : Expr} {es : List Expr} {pos apos pos' p : Pos} {E : En}
theorem Stt.insAt {K : PySem.W.Frag} (S : Stt K F M δ σ H) {k : Nat} {a C dx : Addr} {fs : List (Str × D)} (h : M[k]? = some (a, Cell.ins C dx fs)) : ∃ vs, H a = some (.ins C dx vs) ∧ AVs K F vs fs ∧ F dx = some (.own a) := by
  obtain ⟨⟨vs, h1, h2⟩, h3⟩ := S.cell _ (List.mem_of_getElem? h)
  exact ⟨vs, h1, h2, h3⟩
/-- e.f -/
theorem we_fld {f : Str} {Q : D → Cells → Prop} (h : WE X P e δ M fun d M1 => ∃ (a : Addr) (k : Nat) (C dx : Addr) (fs : List (Str × D)) (v : D), d = .cel a ∧ M1[k]? = some (a, Cell.ins C dx fs) ∧ Cls X.K C ∧ NoAttr X.K C f ∧ fs.lookup f = some v ∧ Q v M1)
    (hb : attributeBase e f X.env (eval e X.env) = eval e X.env := by rfl) : WE X P (.Attribute e f pos) δ M Q :=
  we_of (pe_fld pe_sem hb) fun σ H F G => h.go G fun u H1 F1 M1 d s1 G1 r1 q1 => by
    obtain ⟨a, k, C, dx, fs, v, rfl, hk, c, n, hl, q⟩ := q1
    cases r1
    obtain ⟨vs, e1, e2, e3⟩ := G1.st.insAt hk
    obtain ⟨x, l, rx⟩ := e2.look hl
    exact ⟨a, C, dx, vs, x, rfl, e1, c, n, l, ret G1.st s1 rx q⟩
/-- o.f = e -/
theorem ws_fld {f : Str} (h : WE X P v δ M fun y M1 => WE X P o δ M1 fun d M2 => ∃ (a : Addr) (k : Nat) (C dx : Addr) (fs : List (Str × D)), d = .cel a ∧ M2[k]? = some (a, Cell.ins C dx fs) ∧ Cls X.K C ∧ NoAttr X.K C f ∧ fs.length < 1000 ∧ E.nx δ (M2.set k (a, .ins C dx (putD f y fs))))
    (hs : swapsWith v (some (.Attribute o f pos')) pos.line X.env = pure false := by rfl) : WS X P (.Assign [.Attribute o f pos'] v pos) δ M E :=
  ws_of (ps_fld pe_sem pe_sem hs) fun σ H F G => h.go G fun y H1 F1 M1 dy s1 G1 r1 q1 => q1.go G1 fun u H2 F2 M2 d s2 G2 r2 q2 => by
    obtain ⟨a, k, C, dx, fs, rfl, hk, c, n, hl, q⟩ := q2
    cases r2
    obtain ⟨vs, e1, e2, e3⟩ := G2.st.insAt hk
    exact ⟨a, C, dx, vs, rfl, e1, c, n, by rw [e2.len]; exact hl, nx_ (G2.st.setCell (c' := .ins C dx (putD f dy fs)) hk ⟨⟨_, upd_same, e2.put (r1.up s2)⟩, e3⟩) (s1.trans s2) q⟩
end
structure FM (P : Program) (w : World) (K : PySem.W.Frag) (mg : Str → Option Value) (base : Heap) (k : Nat) (C : Addr) (m : Str) (n : Nat) (T : TSp) : Prop where
  mono : Mono T
  c : Cls K C
  ex : ∃ f fd ps, Meth K C m f ∧ ps.length = n ∧ Binds K fd ps [] ∧ FnOk P w K mg base (L2.CX P w) k f fd ps (spG K T)
theorem fm_ok {P : Program} {w : World} {K : PySem.W.Frag} {mg : Str → Option Value} {base : Heap} {C : Addr} {m : Str} {f : Addr} {fd : FuncData} {ps : List Str} {k n : Nat} {T : TSp} (c : Cls K C) (hm : Meth K C m f) (hn : ps.length = n) (hb : Binds K fd ps []) (mono : Mono T) (h : FnOk P w K mg base (L2.CX P w) k f fd ps (spG K T)) : FM P w K mg base k C m n T := ⟨mono, c, f, fd, ps, hm, hn, hb, h⟩
def tMethP (C : Addr) (m : Str) (sp : Sp) (E : L2.St → XK) (ta : TE) (t : TA) : TE := fun σ H Q => ta σ H fun x H1 => ∃ a dx fs, x = .ref a ∧ H1 a = some (.ins C dx fs) ∧ fs.lookup m = none ∧ t σ H1 fun vs H2 => sp (x :: vs) H2 Q (E σ)
section
variable {X : Cx} {CX : CXT} {k : Nat} {f C : Addr} {fd : FuncData} {ps : List Str} {sp : Sp} {E : L2.St → XK} {m : Str} {pos apos : Pos} {e o : Expr} {es : List Expr} {ta : TE} {t : TA}
theorem pe_methP {pl : Sem Bool} (he : PE X o ta) (c : Cls X.K C) (hm : Meth X.K C m f) (Fo : FnOk X.prog X.w X.K X.mg X.base CX k f fd ps sp) (hr : Room k X.A) (hb : Binds X.K fd ps []) (hx : ∀ σ, PassesAt CX X σ (E σ)) (ha : PA X (e :: es) t)
    (hst : starEach (e :: es) X.env = (false, eval e X.env) :: starEach es X.env := by rfl) (hpl : (backTo pos (starEach es X.env)).any (·.1) = false := by rfl)
    (ht : eval (.Call (.Attribute o m apos) (e :: es) [] pos) X.env = (do
      let ov ← eval o X.env
      standAt apos.atName
      let (f, first) ← holding [ov] (getMethod ov m pl)
      callWith pos f first (backTo pos (starEach (e :: es) X.env)) (backToKw pos (keywordEach [] X.env))) := by rfl) :
    PE X (.Call (.Attribute o m apos) (e :: es) [] pos) (tMethP C m sp E ta t) := by
  refine ⟨fun pins s σ H Q I h => ?_⟩
  refine PySem.W.methodCall_KW (pl := pl) (thn (he.run pins s σ H _ I h) fun u s1 ⟨x, H1, I1, rx, a, dx, fs, ex, ea, l, q⟩ => ?_) ht
  subst ex
  obtain rfl : u = Value.ref a := rx
  refine getmeth_ok I1 ea c hm l ?_
  refine PySem.W.callWith_K (first := [.ref a]) (h₀ := X.base) I.ok.mod.kin hm.kp (thn (ha.run pos pins s1 σ H1 _ I1 q) fun us s2 ⟨vs, H2, I2, r, q2⟩ => ⟨I2.kIn, ?_⟩) hst hpl
  exact run_fnS (us := .ref a :: us) (vs := .ref a :: vs) Fo hr hb (hx σ) I2 (.cons rfl r) q2
theorem pe_methP0 {pl : Sem Bool} (he : PE X o ta) (c : Cls X.K C) (hm : Meth X.K C m f) (Fo : FnOk X.prog X.w X.K X.mg X.base CX k f fd ps sp) (hr : Room k X.A) (hb : Binds X.K fd ps []) (hx : ∀ σ, PassesAt CX X σ (E σ))
    (ht : eval (.Call (.Attribute o m apos) [] [] pos) X.env = (do
      let ov ← eval o X.env
      standAt apos.atName
      let (f, first) ← holding [ov] (getMethod ov m pl)
      callWith pos f first (backTo pos (starEach [] X.env)) (backToKw pos (keywordEach [] X.env))) := by rfl) :
    PE X (.Call (.Attribute o m apos) [] [] pos) (tMethP C m sp E ta tNil) := by
  refine ⟨fun pins s σ H Q I h => ?_⟩
  refine PySem.W.methodCall_KW (pl := pl) (thn (he.run pins s σ H _ I h) fun u s1 ⟨x, H1, I1, rx, a, dx, fs, ex, ea, l, q⟩ => ?_) ht
  subst ex
  obtain rfl : u = Value.ref a := rx
  refine getmeth_ok I1 ea c hm l ?_
  exact PySem.W.callWith_K0 (first := [.ref a]) I1.kIn hm.kp (run_fnS (us := [.ref a]) (vs := [.ref a]) Fo hr hb (hx σ) I1 (.cons rfl .nil) q)
end
section
variable {X : Cx} {P : XP} {F : Hp} {M : Cells} {δ : Slots} {σ : L2.St} {H : Hp} {e o v : Expr} {es : List Expr} {pos apos pos' p : Pos} {E : En}
/-- o.m(e, ..) -/
theorem we_meth {C : Addr} {m : Str} {k n : Nat} {T : TSp} {Q : D → Cells → Prop} {pl : Sem Bool} (c : FM X.prog X.w X.K X.mg X.base k C m n T) (hr : Room k X.A)
    (h : WE X P o δ M fun x M0 => ∃ (a : Addr) (j : Nat) (dx : Addr) (fs : List (Str × D)), x = .cel a ∧ M0[j]? = some (a, Cell.ins C dx fs) ∧ fs.lookup m = none ∧ WA X P (e :: es) δ M0 fun ds M1 => T (.cel a :: ds) M1 Q (fun x M' => P x δ M'))
    (hst : starEach (e :: es) X.env = (false, eval e X.env) :: starEach es X.env := by rfl) (hpl : (backTo pos (starEach es X.env)).any (·.1) = false := by rfl)
    (ht : eval (.Call (.Attribute o m apos) (e :: es) [] pos) X.env = (do
      let ov ← eval o X.env
      standAt apos.atName
      let (f, first) ← holding [ov] (getMethod ov m pl)
      callWith pos f first (backTo pos (starEach (e :: es) X.env)) (backToKw pos (keywordEach [] X.env))) := by rfl) : WE X P (.Call (.Attribute o m apos) (e :: es) [] pos) δ M Q := by
  obtain ⟨f, fd, ps, hm, hn, hb, Fo⟩ := c.ex
  intro σ H F G
  obtain ⟨W, tw, hw⟩ := G.tk
  intro pins s I
  refine (pe_methP (pl := pl) pe_sem c.c hm Fo hr hb (E := fun σ cls d H => W cls d σ H) (fun σ => passAt tw σ) pa_sem hst hpl ht).run pins s σ H _ I ?_
  refine h.go G fun x H0 F0 M0 d s0 G0 r0 q0 => ?_
  obtain ⟨a, j, dx, fs, rfl, hj, hl, q0⟩ := q0
  cases r0
  obtain ⟨vs, e1, e2, e3⟩ := G0.st.insAt hj
  refine ⟨a, dx, vs, rfl, e1, e2.lookN hl, q0.go G0 fun vs H1 F1 M1 ds s1 G1 r1 q1 => ⟨F1, M1, .cel a :: ds, G1.st.bare, .cons (.cel a) r1, c.mono _ _ _ _ _ _ (fun d M' q v F' H' s' S' r' => ?_) (fun y M' q cls d F' H' s' S' hx => ?_) q1⟩⟩
  · exact ret (S'.keep G1.st s') ((s0.trans s1).trans s') r' q
  · exact hw cls d σ H' ⟨F', M', δ, y, (s0.trans s1).trans s', S'.keep G1.st s', hx, q⟩
/-- o.m() -/
theorem we_meth0 {C : Addr} {m : Str} {k n : Nat} {T : TSp} {Q : D → Cells → Prop} {pl : Sem Bool} (c : FM X.prog X.w X.K X.mg X.base k C m n T) (hr : Room k X.A)
    (h : WE X P o δ M fun x M0 => ∃ (a : Addr) (j : Nat) (dx : Addr) (fs : List (Str × D)), x = .cel a ∧ M0[j]? = some (a, Cell.ins C dx fs) ∧ fs.lookup m = none ∧ T [.cel a] M0 Q (fun x M' => P x δ M'))
    (ht : eval (.Call (.Attribute o m apos) [] [] pos) X.env = (do
      let ov ← eval o X.env
      standAt apos.atName
      let (f, first) ← holding [ov] (getMethod ov m pl)
      callWith pos f first (backTo pos (starEach [] X.env)) (backToKw pos (keywordEach [] X.env))) := by rfl) : WE X P (.Call (.Attribute o m apos) [] [] pos) δ M Q := by
  obtain ⟨f, fd, ps, hm, hn, hb, Fo⟩ := c.ex
  intro σ H F G
  obtain ⟨W, tw, hw⟩ := G.tk
  intro pins s I
  refine (pe_methP0 (pl := pl) pe_sem c.c hm Fo hr hb (E := fun σ cls d H => W cls d σ H) (fun σ => passAt tw σ) ht).run pins s σ H _ I ?_
  refine h.go G fun x H0 F0 M0 d s0 G0 r0 q0 => ?_
  obtain ⟨a, j, dx, fs, rfl, hj, hl, q0⟩ := q0
  cases r0
  obtain ⟨vs, e1, e2, e3⟩ := G0.st.insAt hj
  refine ⟨a, dx, vs, rfl, e1, e2.lookN hl, ⟨F0, M0, [.cel a], G0.st.bare, .cons (.cel a) .nil, c.mono _ _ _ _ _ _ (fun d M' q v F' H' s' S' r' => ?_) (fun y M' q cls d F' H' s' S' hx => ?_) q0⟩⟩
  · exact ret (S'.keep G0.st s') (s0.trans s') r' q
  · exact hw cls d σ H' ⟨F', M', δ, y, s0.trans s', S'.keep G0.st s', hx, q⟩
/-- o.f, a property -/
theorem we_prop {C pp g : Addr} {f : Str} {fd : FuncData} {ps : List Str} {k : Nat} {T : TSp} {Q : D → Cells → Prop} (c : Cls X.K C) (hp : PropOf X.K C f pp g) (Fo : FnOk X.prog X.w X.K X.mg X.base (L2.CX X.prog X.w) k g fd ps (spG X.K T)) (mono : Mono T) (hr : Room (k + 1) X.A) (hb : Binds X.K fd ps [])
    (h : WE X P o δ M fun x M0 => ∃ (a : Addr) (j : Nat) (dx : Addr) (fs : List (Str × D)), x = .cel a ∧ M0[j]? = some (a, Cell.ins C dx fs) ∧ T [.cel a] M0 Q fun _ _ => False) (hab : attributeBase o f X.env (eval o X.env) = eval o X.env := by rfl) : WE X P (.Attribute o f pos) δ M Q :=
  we_of (pe_prop (X := X) pe_sem c hp Fo hr hb .nil (passL (X := X.nox)) hab) fun σ H F G => h.go G fun x H0 F0 M0 d s0 G0 r0 q0 => by
    obtain ⟨a, j, dx, fs, rfl, hj, q0⟩ := q0
    cases r0
    obtain ⟨vs, e1, e2, e3⟩ := G0.st.insAt hj
    refine ⟨a, dx, vs, rfl, e1, F0, M0, [.cel a], G0.st.bare, .cons (.cel a) .nil, mono _ _ _ _ _ _ (fun d M' q v F' H' s' S' r' => ?_) (fun y M' q cls d F' H' s' S' hx => q.elim) q0⟩
    exact ret (S'.keep G0.st s') (s0.trans s') r' q
/-- len(o), by the class's own __len__ -/
theorem cr_lenO {C f : Addr} {fd : FuncData} {ps : List Str} {k : Nat} {sp : Sp} (hs : PySem.W.findIn X.K (.ref C) "__len__" = some (some (.ref f))) (hf : PySem.W.isFn X.K (.ref f) = true) (Fo : FnOk X.prog X.w X.K X.mg X.base (L2.CX X.prog X.w) k f fd ps sp) (hr : Room (k + 1) X.A) (hb : Binds X.K fd ps []) :
    CallR X (.builtin "len") (fun xs H Q => ∃ a dx fs, xs = [.ref a] ∧ H a = some (.ins C dx fs) ∧ sp [.ref a] H (fun v H' => ∃ n : Int, v = .int n ∧ 0 ≤ n ∧ n < 2 ^ 63 ∧ Q v H') fun _ _ _ => False) := by
  intro pins s σ H xs us Q I r h
  obtain ⟨a, dx, fs, rfl, ea, h⟩ := h
  cases r with
  | cons ra rn =>
    cases rn
    cases ra
    obtain ⟨mA, O, _, _, _, _⟩ := ins_get I.hok ea
    obtain ⟨od, J, _⟩ := O.look
    obtain ⟨m, Ff⟩ := I.fr
    have hl : ([Value.ref a] ++ []).length = ps.length := (Fo.len _ _ _ _ h)
    refine PySem.W.len_K Ff I.ok.mod.kin J hs hf (wpAny_call (codeAny_mono (Fo.run X.A.in1 X.stack s H ⟨[.ref a], []⟩ [.ref a] [.ref a] _ _ hr.in1 I.env0.in1 (hb s [.ref a] I.kIn hl) (.cons rfl .nil) h) fun r s' hq => ?_))
    cases r with
    | error er => exact passL pins σ H s er s' I hq
    | ok fl =>
      cases fl with
      | ret u =>
        obtain ⟨v, H', I3, rv, n, rfl, h0, h1, q⟩ := I.after hq
        obtain ⟨t, rfl⟩ := rv
        exact ⟨⟨h0, h1⟩, .int n, H', I3.tok _, ⟨_, rfl⟩, q⟩
      | next => exact False.elim hq
      | brk => exact False.elim hq
      | cont => exact False.elim hq
theorem we_lenO {x : Str} {C f : Addr} {fd : FuncData} {ps : List Str} {k : Nat} {T : TSp} {Q : D → Cells → Prop} (hs : PySem.W.findIn X.K (.ref C) "__len__" = some (some (.ref f))) (hf : PySem.W.isFn X.K (.ref f) = true) (Fo : FnOk X.prog X.w X.K X.mg X.base (L2.CX X.prog X.w) k f fd ps (spG X.K T)) (mono : Mono T) (hr : Room (k + 1) X.A) (hb : Binds X.K fd ps [])
    (hg : Gl X x) (hm : X.mg x = none) (hv : bootBuiltins x = some (.builtin "len"))
    (h : WE X P o δ M fun x M0 => ∃ (a : Addr) (j : Nat) (dx : Addr) (fs : List (Str × D)), x = .cel a ∧ M0[j]? = some (a, Cell.ins C dx fs) ∧ T [.cel a] M0 (fun d M' => ∃ n : Int, d = .int n ∧ 0 ≤ n ∧ n < 2 ^ 63 ∧ Q d M') fun _ _ => False) (hn : x ≠ "__name__" := by decide) (hdb : (x == ("__debug__" : Str)) = false := by decide)
    (he : starEach [o] X.env = (false, eval o X.env) :: starEach [] X.env := by rfl) (hpl : (backTo pos (starEach [] X.env)).any (·.1) = false := by rfl) : WE X P (.Call (.Name x p) [o] [] pos) δ M Q :=
  we_callB (R := fun ds M1 Q => ∃ (a : Addr) (j : Nat) (dx : Addr) (fs : List (Str × D)), ds = [.cel a] ∧ M1[j]? = some (a, Cell.ins C dx fs) ∧ T [.cel a] M1 (fun d M' => ∃ n : Int, d = .int n ∧ 0 ≤ n ∧ n < 2 ^ 63 ∧ Q d M') fun _ _ => False) (cr_lenO hs hf Fo hr hb) (fun k s S r h => by
    obtain ⟨a, j, dx, fs, rfl, hj, q0⟩ := h
    obtain ⟨v, rfl, r1⟩ := r.one
    cases r1
    obtain ⟨vs, e1, e2, e3⟩ := S.insAt hj
    refine ⟨a, dx, vs, rfl, e1, _, _, [.cel a], S.bare, .cons (.cel a) .nil, mono _ _ _ _ _ _ (fun d M' q v F' H' s' S' r' => ?_) (fun y M' q cls d F' H' s' S' hx => q.elim) q0⟩
    obtain ⟨n, rfl, h0, h1, q⟩ := q
    cases r'
    exact ⟨n, rfl, h0, h1, k _ _ (ret (S'.keep S s') (s.trans s') (.int n) q)⟩) hg hm hv (wa_cons (hs := he) (h.imp fun d M' ⟨a, j, dx, fs, h1, h2, h3⟩ => wa_nil ⟨a, j, dx, fs, by rw [h1], h2, h3⟩)) hn hdb he hpl
end
end PW
/-! PWOc -/
namespace PW
open PySem L2 PyProof.Rows
section
variable {X : Cx} {P : XP} {F : Hp} {M : Cells} {δ : Slots} {σ : L2.St} {H : Hp} {e o v c : Expr} {es : List Expr} {pos apos pos' cpos p : Pos} {E : En}
/-- C() -/
theorem we_make0 {x : Str} {C f : Addr} {fd : FuncData} {ps : List Str} {k : Nat} {T : TSp} {Q : D → Cells → Prop} (mk : Mk X.K C f) (Fo : FnOk X.prog X.w X.K X.mg X.base (L2.CX X.prog X.w) k f fd ps (spG X.K T)) (mono : Mono T) (hr : Room (k + 1) X.A) (hg : Gl X x) (hm : X.mg x = some (.ref C)) (hb : Binds X.K fd ps [])
    (h : ∀ a dx : Addr, T [.cel a] ((a, Cell.ins C dx []) :: M) (fun d M' => d = .non ∧ Q (.cel a) M') fun _ _ => False) (hdb : (x == ("__debug__" : Str)) = false := by decide) : WE X P (.Call (.Name x p) [] [] pos) δ M Q :=
  we_of (pe_make0 mk Fo hr hg hm hb .nil passL hdb) fun σ H F G => by
    intro a dx ha hdx hne
    obtain ⟨S1, s1⟩ := G.st.froz (o := .own a) hdx
    have S2 := S1.newCell (a := a) (o := .ins C dx []) (c := .ins C dx []) (by rw [upd_ne (Ne.symm hne)]; exact ha) ⟨⟨[], upd_same, .nil⟩, upd_same⟩
    refine ⟨_, _, [.cel a], S2.bare, .cons (.cel a) .nil, mono _ _ _ _ _ _ (fun d M' q v F' H' s' S' r' => ?_) (fun y M' q cls d F' H' s' S' hx => q.elim) (h a dx)⟩
    obtain ⟨rfl, q⟩ := q
    cases r'
    exact ⟨rfl, ret (S'.keep G.st (s1.trans s')) (s1.trans s') (.cel a) q⟩
/-- xs.index(True) of bools -/
theorem we_indexB {Q : D → Cells → Prop} (h : WE X P o δ M fun x M1 => (∃ ds, LV M1 x ds) ∧ WA X P [e] δ M1 fun ys M2 => ∃ (bs : List Bool) (j : Nat), ys = [.bl true] ∧ LV M2 x (bs.map D.bl) ∧ bs[j]? = some true ∧ (∀ m, m < j → bs[m]? = some false) ∧ Q (.int (j : Nat)) M2)
    (hbase : attributeBase o "index" X.env (eval o X.env) = eval o X.env := by rfl)
    (hfew : ((backTo cpos (starEach [e] X.env)).all (fun x => !x.1) && (backToKw cpos (keywordEach [] X.env)).all (fun x => x.1.isSome)
      && decide (([e] : List Expr).length + ([] : List Keyword).length + (if ([] : List Keyword).isEmpty then 0 else 1) < 30)) = true := by rfl)
    (hline : (apos.endLine == cpos.line) = true := by rfl) (hs : starEach [e] X.env = (false, eval e X.env) :: starEach [] X.env := by rfl) (hplain : (backTo cpos (starEach [] X.env)).any (·.1) = false := by rfl) :
    WE X P (.Call (.Attribute o "index" apos) [e] [] cpos) δ M Q :=
  we_of (pe_bm PySem.F.plainAttrs_list PySem.F.slot_list_index PySem.F.type_list_index mt_index pe_sem pa_sem hbase hfew hline hs hplain) fun σ H F G => h.go G fun v H1 F1 M1 x s1 G1 r1 q1 => by
    obtain ⟨⟨ds0, l0⟩, q1⟩ := q1
    obtain ⟨a, vs0, rfl, e0, _⟩ := G1.st.readL r1 l0
    refine ⟨.inl ⟨rfl, vs0, e0⟩, q1.go G1 fun ws H2 F2 M2 ys s2 G2 r2 q2 => ?_⟩
    obtain ⟨bs, j, rfl, l2, hj, hno, hq⟩ := q2
    obtain ⟨w, rfl, rw'⟩ := r2.one
    cases rw'
    obtain ⟨a', vs, ea, f1, f2⟩ := G2.st.readL (r1.up s2) l2
    cases ea
    rw [f2.bls_inv] at f1
    refine ⟨a, bs.map V.bl, .bl true, j, .bl true, rfl, rfl, f1, rfl, ?_, by rw [List.getElem?_map, hj]; rfl, rfl, fun m z' hm hz' => ?_, ret G2.st (s1.trans s2) (.int _) hq⟩
    · rw [List.all_eq_true]
      intro y hy
      obtain ⟨b, _, rfl⟩ := List.mem_map.mp hy
      rfl
    · rw [List.getElem?_map, hno m hm] at hz'
      cases hz'
      rfl
end
/-- isinstance(e, c), e the exception that the suite holds, with a dict or without one -/
theorem call_isX {X : Cx} {a D : Addr} {oe : Obj} {d : Option Addr} {pn : List (Addr × Obj)} (C : ExcC X.K D) (hz : Zc (.ref D) d oe) (hf : ∃ vs, oe.data = .fields vs) : CallR (X.suite a ((a, oe) :: pn)) (.builtin "isinstance") (fun xs H Q => ∃ (c : V) (cv : Value) (b : Bool), xs = [.ref a, c] ∧ (∀ u, RelV c u → u = cv) ∧ PySem.W.kitOne X.K (.ref D) cv = some b ∧ (∀ dd, d = some dd → ∃ fs, H dd = some (.xd fs)) ∧ Q (.bl b) H) := by
  intro pins s σ H xs us Q I r h
  obtain ⟨c, cv, b, rfl, hcv, e, hdd, q⟩ := h
  cases r with
  | cons rx rr =>
    cases rr with
    | cons rt rr =>
      cases rr
      cases rx
      have ec := hcv _ rt
      subst ec
      obtain ⟨hget, _⟩ := I.pin (a, oe) (List.mem_append.mpr (.inl List.mem_cons_self))
      obtain ⟨vs, hv⟩ := hf
      have hcl : (PySem.W.clsIn X.K D).isSome = true := by
        obtain ⟨cd, hc, _⟩ := PySem.W.any_some C.hd
        rw [hc]; rfl
      have fin : ∀ od, PySem.W.InstAt s.heap a oe D od → wpAny (model X.prog X.w) (X.suite a ((a, oe) :: pn)).A (call (.builtin "isinstance") [.ref a, _]) (EP (X.suite a ((a, oe) :: pn)) pins σ Q) (X.suite a ((a, oe) :: pn)).xe s := fun od J =>
        PySem.W.kia_one (PySem.W.kitx_exc hcl C.hg C.hk C.hs C.ha C.hn C.ht C.hm) I.kIn J e (fun z => nomatch z) fun tk => ⟨.bl b, H, I.kept (t' := tk) fun _ _ z => z, rfl, q⟩
      cases d with
      | none =>
        refine fin none ?_
        obtain ⟨oc, od, oda, osl⟩ := oe
        obtain ⟨h1, h2⟩ := hz
        dsimp only at h1 h2 hv
        subst h1 h2 hv
        exact ⟨hget, rfl, rfl, trivial⟩
      | some dd =>
        obtain ⟨fs, ea⟩ := hdd dd rfl
        have hx : ObjOk X.prog X.w H s.heap dd (.xd fs) := I.hok dd _ ea
        obtain ⟨mA, hns, hr⟩ := hx
        obtain ⟨od, ho, hl⟩ := L2.lookIn_ns hns
        exact fin (some od) ⟨hget, hz.1, by unfold PySem.W.notCls; rw [hv] <;> rfl, by rw [hz.2]; exact ho⟩
/-- what the name of a handler holds -/
def EDat (a : Addr) (od : Option Addr) (d : D) : Prop := (d = .raw (.ref a) ∧ od = none) ∨ ∃ dd fs, d = .exc a dd fs ∧ od = some dd
section
variable {X : Cx} {P : XP} {F : Hp} {M : Cells} {δ : Slots} {σ : L2.St} {H : Hp} {e c : Expr} {pos p : Pos} {E : En}
theorem we_isX {a D : Addr} {oe : Obj} {d : Option Addr} {pn : List (Addr × Obj)} {x : Str} {Q : PW.D → Cells → Prop} (C : ExcC X.K D) (hz : Zc (.ref D) d oe) (hf : ∃ vs, oe.data = .fields vs) (hg : Gl (X.suite a ((a, oe) :: pn)) x) (hm : X.mg x = none) (hv : bootBuiltins x = some (.builtin "isinstance"))
    (h : WA (X.suite a ((a, oe) :: pn)) P [e, c] δ M fun ds M1 => ∃ (z : PW.D) (Cc : Addr) (b : Bool), ds = [z, .raw (.ref Cc)] ∧ EDat a d z ∧ PySem.W.kitOne X.K (.ref D) (.ref Cc) = some b ∧ Q (.bl b) M1) (hn : x ≠ "__name__" := by decide) (hdb : (x == ("__debug__" : Str)) = false := by decide)
    (he : starEach [e, c] X.env = (false, eval e X.env) :: starEach [c] X.env := by rfl) (hpl : (backTo pos (starEach [c] X.env)).any (·.1) = false := by rfl) : WE (X.suite a ((a, oe) :: pn)) P (.Call (.Name x p) [e, c] [] pos) δ M Q :=
  we_callB (X := X.suite a ((a, oe) :: pn)) (R := fun ds M1 Q => ∃ (z : PW.D) (Cc : Addr) (b : Bool), ds = [z, .raw (.ref Cc)] ∧ EDat a d z ∧ PySem.W.kitOne X.K (.ref D) (.ref Cc) = some b ∧ Q (.bl b) M1) (call_isX C hz hf) (fun k s S r h => by
    obtain ⟨z, Cc, b, rfl, hz, hk, q⟩ := h
    obtain ⟨v, w, rfl, r1, r2⟩ := r.two
    cases r2
    rcases hz with ⟨rfl, rfl⟩ | ⟨dd, fs, rfl, rfl⟩
    · cases r1
      exact ⟨.ref Cc, .ref Cc, b, rfl, fun u hu => hu, hk, (fun _ z => nomatch z), k _ _ (ret S s (.bl b) q)⟩
    · cases r1 with
      | exc _ _ _ hF => exact ⟨.ref Cc, .ref Cc, b, rfl, fun u hu => hu, hk, (fun _ z => by cases z; exact ⟨_, S.le _ _ hF⟩), k _ _ (ret S s (.bl b) q)⟩) hg hm hv h hn hdb he hpl
/-- try: body / except x as n: suite; any own error -/
theorem ws_tryAny {x n : Str} {c : Value} {i : Nat} {np pos' : Pos} {body suite : List Stmt} {b₀ : Stmt} (P' : XP) (N : Nice X) (hs : X.stack = X.env :: X.outer) (hf : X.env.frame = some X.env.locals) (hi : X.N[i]? = some n) (hln : X.env.kindOf n = some .local) (hc : Names X x c)
    (hb : ∀ pn xe, Nice (X.tr pn xe) → WB (X.tr pn xe) P' body δ M E)
    (hx : ∀ ex δ' M', P' ex δ' M' → ∃ b, PySem.W.exmOne X.K (.ref ex.cls) c = some b ∧
      (b = true → (ex.fs = [] ∨ ∃ fs : List (Str × Int), ex.fs = fsD fs ∧ fs ≠ []) ∧ ∀ a od oe pn d, EDat a od d → Zc (.ref ex.cls) od oe → (∃ vs, oe.data = .fields vs) →
        WB (X.suite a ((a, oe) :: pn)) PX0 (b₀ :: suite) (δ'.set i (some d)) M' (EnAs i E)) ∧
      (b = false → P ex δ' M')) :
    WS X P (.Try body [.ExceptHandler (some (.Name x np)) (some n) (b₀ :: suite) pos'] [] [] pos) δ M E := by
  intro σ H F G pins s I
  obtain ⟨Wout, tk, hw⟩ := G.tk
  have rule := ps_try_as (X := X) (body := body) (suite := suite) (b₀ := b₀) (np := np) (pos := pos) (pos' := pos') (i := i)
    (tb := fun W D σ H => ∀ pn xe, Takes (X.tr pn xe) W → PassesOwn (model X.prog X.w) X.A X.env xe → tB (X.tr pn xe) body D σ H)
    (ts := fun a cls d D σ H => ∀ oe pn, Zc cls d oe → (∃ vs, oe.data = .fields vs) → tB (X.suite a ((a, oe) :: pn)) (b₀ :: suite) D σ H)
    hs hf N.nd hi hln hc tk (fun W pn xe t p => ⟨fun pins s σ H D I h => h pn xe t p pins s I⟩) (fun a oe cls d pn z v => ⟨fun pins s σ H D I h => h oe pn z v pins s I⟩)
  refine rule.run pins s σ H _ I fun pn xe t p => ?_
  refine hb pn xe ⟨N.calm, N.nd, p⟩ σ H F ⟨G.st, ⟨_, t, ?_⟩⟩
  rintro cls d σ' H' ⟨F', M', δ', ex, s1, S1, ⟨ec, ed⟩, q⟩
  obtain ⟨b, e1, e2, e3⟩ := hx ex δ' M' q
  subst ec
  refine ⟨b, e1, fun hbt a na oe pn z v => ?_, fun hbf => hw _ _ _ _ ⟨F', M', δ', ex, s1, S1, ⟨rfl, ed⟩, e3 hbf⟩⟩
  obtain ⟨ef, go⟩ := e2 hbt
  rcases ed with ⟨z1, rfl⟩ | ⟨dd, vs, rfl, hdd, hfs⟩
  · exact (go a none oe _ _ (.inl ⟨rfl, rfl⟩) z v _ H' F' ⟨S1.setSlot (i := i) (Rep.raw (K := X.K) (.ref a)), TakesP.none⟩).mono (upEn_as s1)
  · rcases ef with ef | ⟨fs, ef, en⟩
    · obtain ⟨F2, s2, S2, hF2⟩ := S1.pin hdd
      rw [ef] at hfs
      cases hfs
      exact (go a (some dd) oe _ _ (.inr ⟨dd, [], rfl, rfl⟩) z v _ H' F2 ⟨S2.setSlot (i := i) (Rep.exc (K := X.K) a dd [] hF2), TakesP.none⟩).mono (upEn_as (s1.trans s2))
    · obtain ⟨F2, s2, S2, hF2⟩ := S1.pin hdd
      rw [ef] at hfs
      rw [fs_inv hfs] at hF2
      exact (go a (some dd) oe _ _ (.inr ⟨dd, fs, rfl, rfl⟩) z v _ H' F2 ⟨S2.setSlot (i := i) (Rep.exc (K := X.K) a dd fs hF2), TakesP.none⟩).mono (upEn_as (s1.trans s2))
end
end PW
/-! PWOd -/
namespace PW
open PySem L2 PyProof.Rows
/-- a class whose calls without arguments make an instance -/
structure FMk (P : Program) (w : World) (K : PySem.W.Frag) (mg : Str → Option Value) (base : Heap) (k : Nat) (x : Str) (C : Addr) (T : TSp) : Prop where
  mono : Mono T
  g : mg x = some (.ref C)
  ex : ∃ f fd ps, Mk K C f ∧ Binds K fd ps [] ∧ FnOk P w K mg base (L2.CX P w) k f fd ps (spG K T)
/-- a property -/
structure FPr (P : Program) (w : World) (K : PySem.W.Frag) (mg : Str → Option Value) (base : Heap) (k : Nat) (C : Addr) (f : Str) (T : TSp) : Prop where
  mono : Mono T
  c : Cls K C
  ex : ∃ pp g fd ps, PropOf K C f pp g ∧ Binds K fd ps [] ∧ FnOk P w K mg base (L2.CX P w) k g fd ps (spG K T)
/-- __len__ -/
structure FLn (P : Program) (w : World) (K : PySem.W.Frag) (mg : Str → Option Value) (base : Heap) (k : Nat) (C : Addr) (T : TSp) : Prop where
  mono : Mono T
  ex : ∃ f fd ps, PySem.W.findIn K (.ref C) "__len__" = some (some (.ref f)) ∧ PySem.W.isFn K (.ref f) = true ∧ Binds K fd ps [] ∧ FnOk P w K mg base (L2.CX P w) k f fd ps (spG K T)
section
variable {X : Cx} {P : XP} {F : Hp} {M : Cells} {δ : Slots} {σ : L2.St} {H : Hp} {a b e o v c : Expr} {es : List Expr} {pos apos pos' cpos p : Pos} {E : En}
theorem we_mk {x : Str} {C : Addr} {k : Nat} {T : TSp} {Q : D → Cells → Prop} (m : FMk X.prog X.w X.K X.mg X.base k x C T) (hr : Room (k + 1) X.A) (hg : Gl X x) (h : ∀ a dx : Addr, T [.cel a] ((a, Cell.ins C dx []) :: M) (fun d M' => d = .non ∧ Q (.cel a) M') fun _ _ => False) (hdb : (x == ("__debug__" : Str)) = false := by decide) : WE X P (.Call (.Name x p) [] [] pos) δ M Q :=
  let ⟨_, _, _, mk, hb, Fo⟩ := m.ex
  we_make0 mk Fo m.mono hr hg m.g hb h hdb
theorem we_prp {C : Addr} {f : Str} {k : Nat} {T : TSp} {Q : D → Cells → Prop} (m : FPr X.prog X.w X.K X.mg X.base k C f T) (hr : Room (k + 1) X.A)
    (h : WE X P o δ M fun x M0 => ∃ (a : Addr) (j : Nat) (dx : Addr) (fs : List (Str × D)), x = .cel a ∧ M0[j]? = some (a, Cell.ins C dx fs) ∧ T [.cel a] M0 Q fun _ _ => False) (hab : attributeBase o f X.env (eval o X.env) = eval o X.env := by rfl) : WE X P (.Attribute o f pos) δ M Q :=
  let ⟨_, _, _, _, hp, hb, Fo⟩ := m.ex
  we_prop m.c hp Fo m.mono hr hb h hab
theorem we_ln {x : Str} {C : Addr} {k : Nat} {T : TSp} {Q : D → Cells → Prop} (m : FLn X.prog X.w X.K X.mg X.base k C T) (hr : Room (k + 1) X.A) (hg : Gl X x) (hm : X.mg x = none) (hv : bootBuiltins x = some (.builtin "len"))
    (h : WE X P o δ M fun x M0 => ∃ (a : Addr) (j : Nat) (dx : Addr) (fs : List (Str × D)), x = .cel a ∧ M0[j]? = some (a, Cell.ins C dx fs) ∧ T [.cel a] M0 (fun d M' => ∃ n : Int, d = .int n ∧ 0 ≤ n ∧ n < 2 ^ 63 ∧ Q d M') fun _ _ => False) (hn : x ≠ "__name__" := by decide) (hdb : (x == ("__debug__" : Str)) = false := by decide)
    (he : starEach [o] X.env = (false, eval o X.env) :: starEach [] X.env := by rfl) (hpl : (backTo pos (starEach [] X.env)).any (·.1) = false := by rfl) : WE X P (.Call (.Name x p) [o] [] pos) δ M Q :=
  let ⟨_, _, _, hs, hf, hb, Fo⟩ := m.ex
  we_lenO hs hf Fo m.mono hr hb hg hm hv h hn hdb he hpl
theorem wt_inD {Q : Bool → Cells → Prop} (hu : X.A.units + 65 < cLine) (h : WE X P a δ M fun d M1 => WE X P b δ M1 fun e M2 => ∃ q qs, PV M2 d q ∧ PV M2 e (.list qs) ∧ SeqAt.shaped q = true ∧ SeqAt.shaped (.list qs) = true ∧ onB Q (.bl (qs.any fun z => PyData.eqv z q)) M2) (hmk : behindInMarks .In b = false := by rfl) : WT X P (.Compare a [.In] [b] pos) δ M Q :=
  wt_cmp (R := fun d e M Q => ∃ q qs, PV M d q ∧ PV M e (.list qs) ∧ SeqAt.shaped q = true ∧ SeqAt.shaped (.list qs) = true ∧ Q (.bl (qs.any fun z => PyData.eqv z q)) M) (op_inD hu) (fun k s S r1 r2 h => by
    obtain ⟨q, qs, h1, h2, s1, s2, z⟩ := h
    exact ⟨q, qs, S.readP r1 h1, S.readP r2 h2, s1, s2, k _ _ (ret S s (.bl _) z)⟩) hmk h
/-- [*xs, y] -/
theorem we_lstStr {sp : Pos} {Q : D → Cells → Prop} (h : WE X P e δ M fun d M1 => ∃ ds, LV M1 d ds ∧ WE X P b δ M1 fun y M2 => ds.length < sizeLine ∧ Q (.lst (ds ++ [y])) M2)
    (hb : starEach [b] X.env = (false, eval b X.env) :: starEach [] X.env := by rfl) : WE X P (.List [.Starred e sp, b] pos) δ M Q :=
  we_of (pe_lst (StX.pa_star pe_sem (pa_cons pe_sem pa_nil hb))) fun σ H F G => h.go G fun v H1 F1 M1 d s1 G1 r1 q1 => by
    obtain ⟨ds, hl, q1⟩ := q1
    obtain ⟨l, vs, rfl, e1, e2⟩ := G1.st.readL r1 hl
    refine ⟨l, vs, rfl, .inr e1, q1.go G1 fun u H2 F2 M2 y s2 G2 r2 q2 => ?_⟩
    have rr : Reps X.K F2 (vs ++ [u]) (ds ++ [y]) := (e2.up s2).append (.cons r2 .nil)
    refine ⟨by rw [rr.length, List.length_append]; exact q2.1, fun p hp => ?_⟩
    obtain ⟨S, s3⟩ := G2.st.froz (o := .lst (vs ++ [u])) hp
    exact ret S ((s1.trans s2).trans s3) (.lst (.of upd_same) (rr.up s3)) q2.2
end
end PW
namespace PW
open PySem L2 PyProof.Rows
local macro_rules
  | `(tactic| walk_at "lk") => `(tactic| first | assumption | exact set_get (by assumption))
  | `(tactic| walk_at "lv") => `(tactic| first | exact LV.l | exact LV.c 0 rfl | exact LV.c 1 rfl | exact LV.c 2 rfl | exact LV.c _ (by walk_at "lk"))
  | `(tactic| walk_at "cl") => `(tactic| first | refine cl_set (by assumption) ?_ | refine cl_0 ?_ | (refine cl_skip ?_; walk_at "cl") | refine cl_k (by assumption) ?_)
  | `(tactic| walk_at "r") => `(tactic| first | assumption | exact room_le (by assumption) (by decide))
  | `(tactic| walk_at "u") => `(tactic| exact Room.units (by assumption))
  | `(tactic| walk_at "eWEConstant") => `(tactic| first
  | ((with_reducible show WE _ _ (Expr.Constant (Const.int _) _ _) _ _ _); refine we_int ?_)
  | ((with_reducible show WE _ _ (Expr.Constant (Const.str _) _ _) _ _ _); refine we_str ?_)
  | ((with_reducible show WE _ _ (Expr.Constant (Const.bool _) _ _) _ _ _); refine we_bl ?_)
  | ((with_reducible show WE _ _ (Expr.Constant Const.none _ _) _ _ _); refine we_non ?_))
  | `(tactic| walk_at "eWECall") => `(tactic| first
  | ((with_reducible refine gC "len" ?_); refine we_len rfl (by assumption) ?_)
  | ((with_reducible refine gC "int" ?_); refine we_int2 rfl (by assumption) ?_)
  | ((with_reducible refine gC "abs" ?_); refine we_abs rfl (by assumption) ?_)
  | ((with_reducible refine gC "max" ?_); refine we_max2 rfl rfl (by assumption) ?_)
  | ((with_reducible refine gC "min" ?_); refine we_min2 rfl rfl (by assumption) ?_)
  | ((with_reducible refine gC "isinstance" ?_); refine we_isi rfl (by assumption) ?_)
  | ((with_reducible refine gC "str" ?_); refine we_str1 rfl (by assumption) ?_)
  | ((with_reducible refine gC "list" ?_); refine we_list rfl (by assumption) ?_)
  | ((with_reducible refine gC "all" ?_); refine we_all rfl rfl (by assumption) ?_)
  | ((with_reducible refine gC "any" ?_); refine we_any rfl rfl (by assumption) ?_)
  | ((with_reducible refine gC "sum" ?_); refine we_sum rfl rfl (by assumption) ?_)
  | ((with_reducible show WE _ _ (Expr.Call (Expr.Name "sorted" _) [Expr.Call (Expr.Name "set" _) _ _ _] _ _) _ _ _); refine we_sortedSet rfl rfl (by assumption) rfl (by assumption) ?_)
  | ((with_reducible show WE _ _ (Expr.Call (Expr.Attribute _ "bit_length" _) _ _ _) _ _ _); refine we_bits ?_)
  | ((with_reducible show WE _ _ (Expr.Call (Expr.Attribute _ "join" _) _ _ _) _ _ _); refine we_join ?_)
  | ((with_reducible show WE _ _ (Expr.Call (Expr.Attribute _ "split" _) _ _ _) _ _ _); refine we_split ?_)
  | ((with_reducible show WE _ _ (Expr.Call (Expr.Attribute _ "append" _) _ _ _) _ _ _); refine we_append ?_)
  | ((with_reducible show WE _ _ (Expr.Call (Expr.Name _ _) _ _ _) _ _ _); walk_at "c"))
  | `(tactic| walk_at "eWECompare") => `(tactic| first
  | ((with_reducible show WE _ _ (Expr.Compare _ [CmpOp.Eq] _ _) _ _ _); refine we_eq (by walk_at "u") ?_)
  | ((with_reducible show WE _ _ (Expr.Compare _ [CmpOp.NotEq] _ _) _ _ _); refine we_ne (by walk_at "u") ?_)
  | ((with_reducible show WE _ _ (Expr.Compare _ [CmpOp.In] _ _) _ _ _); refine we_in ?_)
  | ((with_reducible show WE _ _ (Expr.Compare _ [CmpOp.NotIn] _ _) _ _ _); refine we_notIn ?_)
  | ((with_reducible show WE _ _ (Expr.Compare _ [CmpOp.Lt] _ _) _ _ _); refine we_lt ?_)
  | ((with_reducible show WE _ _ (Expr.Compare _ [CmpOp.LtE] _ _) _ _ _); refine we_le ?_)
  | ((with_reducible show WE _ _ (Expr.Compare _ [CmpOp.Gt] _ _) _ _ _); refine we_gt ?_)
  | ((with_reducible show WE _ _ (Expr.Compare _ [CmpOp.GtE] _ _) _ _ _); refine we_ge ?_)
  | ((with_reducible show WE _ _ (Expr.Compare _ [CmpOp.Is] [Expr.Constant Const.none _ _] _) _ _ _); refine we_isN ?_)
  | ((with_reducible show WE _ _ (Expr.Compare _ [CmpOp.IsNot] [Expr.Constant Const.none _ _] _) _ _ _); refine we_notN ?_)
  | ((with_reducible show WE _ _ (Expr.Compare _ [CmpOp.LtE, CmpOp.LtE] _ _) _ _ _); refine we_lele ?_))
  | `(tactic| walk_at "eWTCompare") => `(tactic| first
  | ((with_reducible show WT _ _ (Expr.Compare _ [CmpOp.In] _ _) _ _ _); refine wt_in ?_)
  | ((with_reducible show WT _ _ (Expr.Compare _ [CmpOp.NotIn] _ _) _ _ _); refine wt_notIn ?_)
  | ((with_reducible show WT _ _ (Expr.Compare _ [CmpOp.LtE, CmpOp.LtE] _ _) _ _ _); refine wt_lele ?_)
  | ((with_reducible show WT _ _ (Expr.Compare _ [CmpOp.LtE, CmpOp.Lt] _ _) _ _ _); refine wt_lelt ?_)
  | ((with_reducible show WT _ _ (Expr.Compare _ [CmpOp.Lt] _ _) _ _ _); refine wt_lt ?_)
  | ((with_reducible show WT _ _ (Expr.Compare _ [CmpOp.LtE] _ _) _ _ _); refine wt_le ?_)
  | ((with_reducible show WT _ _ (Expr.Compare _ [CmpOp.Gt] _ _) _ _ _); refine wt_gt ?_)
  | ((with_reducible show WT _ _ (Expr.Compare _ [CmpOp.GtE] _ _) _ _ _); refine wt_ge ?_)
  | ((with_reducible show WT _ _ (Expr.Compare _ [CmpOp.Eq] _ _) _ _ _); refine wt_eq (by walk_at "u") ?_)
  | ((with_reducible show WT _ _ (Expr.Compare _ [CmpOp.NotEq] _ _) _ _ _); refine wt_ne (by walk_at "u") ?_)
  | ((with_reducible show WT _ _ (Expr.Compare _ [CmpOp.Is] [Expr.Constant Const.none _ _] _) _ _ _); refine wt_isN ?_)
  | ((with_reducible show WT _ _ (Expr.Compare _ [CmpOp.IsNot] [Expr.Constant Const.none _ _] _) _ _ _); refine wt_notN ?_))
  | `(tactic| walk_at "eWK") => `(tactic| first
  | ((with_reducible show WK _ _ [] _ _ _); refine wk_nil ?_)
  | ((with_reducible show WK _ _ (_ :: _) _ _ _); refine wk_cons ?_))
  | `(tactic| walk_at "eWEBinOp") => `(tactic| first
  | ((with_reducible show WE _ _ (Expr.BinOp _ Operator.Sub _ _) _ _ _); refine we_sub ?_)
  | ((with_reducible show WE _ _ (Expr.BinOp _ Operator.Add _ _) _ _ _); refine we_add ?_)
  | ((with_reducible show WE _ _ (Expr.BinOp _ Operator.Mult _ _) _ _ _); refine we_mul ?_)
  | ((with_reducible show WE _ _ (Expr.BinOp _ Operator.Mod _ _) _ _ _); refine we_mod ?_)
  | ((with_reducible show WE _ _ (Expr.BinOp _ Operator.FloorDiv _ _) _ _ _); refine we_fdiv ?_)
  | ((with_reducible show WE _ _ (Expr.BinOp _ Operator.Pow _ _) _ _ _); refine we_pow ?_))
  | `(tactic| walk_at "eWEUnaryOp") => `(tactic| first
  | ((with_reducible show WE _ _ (Expr.UnaryOp UnaryOp.USub _ _) _ _ _); refine we_neg ?_)
  | ((with_reducible show WE _ _ (Expr.UnaryOp UnaryOp.Not _ _) _ _ _); refine we_not ?_))
  | `(tactic| walk_at "eWESubscript") => `(tactic| first
  | ((with_reducible show WE _ _ (Expr.Subscript _ (Expr.Slice _ _ _ _) _) _ _ _); refine we_sl ?_)
  | ((with_reducible refine gESu ?_); refine we_ix ?_ (fun _ _ => rfl)))
  | `(tactic| walk_at "eWW") => `(tactic| first
  | ((with_reducible show WW _ _ (Expr.BoolOp BoolOp.And [_] _) _ _ _); refine ww_and1 ?_)
  | ((with_reducible show WW _ _ (Expr.BoolOp BoolOp.Or [_] _) _ _ _); refine ww_or1 ?_)
  | ((with_reducible show WW _ _ (Expr.BoolOp BoolOp.And _ _) _ _ _); refine ww_and ?_)
  | ((with_reducible show WW _ _ (Expr.BoolOp BoolOp.Or _ _) _ _ _); refine ww_or ?_))
  | `(tactic| walk_at "eWEBoolOp") => `(tactic| first
  | ((with_reducible show WE _ _ (Expr.BoolOp _ [_] _) _ _ _); refine we_one ?_)
  | ((with_reducible show WE _ _ (Expr.BoolOp BoolOp.And _ _) _ _ _); refine we_and ?_)
  | ((with_reducible show WE _ _ (Expr.BoolOp BoolOp.Or _ _) _ _ _); refine we_or ?_))
  | `(tactic| walk_at "eWA") => `(tactic| first
  | ((with_reducible show WA _ _ [] _ _ _); refine wa_nil ?_)
  | ((with_reducible show WA _ _ (_ :: _) _ _ _); refine wa_cons ?_))
  | `(tactic| walk_at "eWO") => `(tactic| first
  | ((with_reducible show WO _ _ none _ _ _); refine wo_none ?_)
  | ((with_reducible show WO _ _ (some _) _ _ _); refine wo_some ?_))
  | `(tactic| walk_at "eEx") => `(tactic| first
  | ((with_reducible show ∃ i j, D.int _ = D.int i ∧ D.int _ = D.int j ∧ _ ∧ _); refine ⟨_, _, rfl, rfl, ?_, ?_⟩)
  | ((with_reducible show ∃ i j, D.int _ = D.int i ∧ D.int _ = D.int j ∧ _); refine ⟨_, _, rfl, rfl, ?_⟩)
  | ((with_reducible show ∃ z, atI _ _ = some z ∧ _); refine ⟨_, rfl, ?_⟩)
  | ((with_reducible show ∃ j, ixN _ _ = some j ∧ _); refine ⟨_, rfl, ?_⟩)
  | ((with_reducible show ∃ q, D.cel _ = D.cel q ∧ (∃ (k : Nat) (ds : List D), _) ∧ _); refine app0_cl (by walk_at "cl"; trivial) ?_)
  | ((with_reducible show ∃ (y : D) (k : Nat) (ds : List D), [_] = [y] ∧ _ ∧ _ ∧ _); refine app_cl ?_)
  | ((with_reducible show ∃ i, D.int _ = D.int i ∧ _); refine ⟨_, rfl, ?_⟩)
  | ((with_reducible show ∃ i, D.bl _ = D.bl i ∧ _); refine ⟨_, rfl, ?_⟩)
  | ((with_reducible show ∃ ds i z, LV _ _ ds ∧ D.int _ = D.int i ∧ _ ∧ _); refine' ⟨_, _, _, ?lv, rfl, ?ixe, ?_⟩; (case lv => walk_at "lv"); (case ixe => rfl))
  | ((with_reducible show ∃ k q ds z j, D.cel _ = D.cel q ∧ _ ∧ D.int _ = D.int z ∧ _ ∧ _); refine wgs_cl ?_)
  | ((with_reducible show ∃ i, [D.int _] = [D.int i] ∧ _); refine ⟨_, rfl, ?_⟩))
  | `(tactic| walk_at "eREq") => `(tactic| first
  | ((with_reducible show REq false (D.int _) (D.int _) _ _); refine req_i ?_)
  | ((with_reducible show REq true (D.int _) (D.int _) _ _); refine req_iN ?_)
  | ((with_reducible show REq false (D.str _) (D.str _) _ _); refine req_s ?_)
  | ((with_reducible show REq true (D.str _) (D.str _) _ _); refine req_sN ?_)
  | ((with_reducible show REq false (D.bl _) (D.bl _) _ _); refine req_b ?_)
  | ((with_reducible show REq true (D.bl _) (D.bl _) _ _); refine req_bN ?_))
  | `(tactic| walk_at "eRIx") => `(tactic| first
  | ((with_reducible show RIx (D.lst _) (D.int _) _ _); refine rix_l ?_)
  | ((with_reducible show RIx (D.cel _) (D.int _) _ _); refine rix_cl ?_)
  | ((with_reducible show RIx (D.tup _) (D.int _) _ _); refine rix_t ?_))
  | `(tactic| walk_at "eOr") => `(tactic| first
  | ((with_reducible show RIsi [D.int _, D.tup _] _ _ ∨ _); first | refine isi2 (t := "int") (b := true) rfl (by decide) (by decide) (by decide) ?_ | refine isi2 (t := "int") (b := false) rfl (by decide) (by decide) (by decide) ?_)
  | ((with_reducible show RIsi [D.bl _, D.tup _] _ _ ∨ _); first | refine isi2 (t := "bool") (b := true) rfl (by decide) (by decide) (by decide) ?_ | refine isi2 (t := "bool") (b := false) rfl (by decide) (by decide) (by decide) ?_)
  | ((with_reducible show RIsi [D.str _, D.tup _] _ _ ∨ _); first | refine isi2 (t := "str") (b := true) rfl (by decide) (by decide) (by decide) ?_ | refine isi2 (t := "str") (b := false) rfl (by decide) (by decide) (by decide) ?_)
  | ((with_reducible show RIsi [D.tup _, D.tup _] _ _ ∨ _); first | refine isi2 (t := "tuple") (b := true) rfl (by decide) (by decide) (by decide) ?_ | refine isi2 (t := "tuple") (b := false) rfl (by decide) (by decide) (by decide) ?_)
  | ((with_reducible show RIsi [D.lst _, D.tup _] _ _ ∨ _); first | refine isi2 (t := "list") (b := true) rfl (by decide) (by decide) (by decide) ?_ | refine isi2 (t := "list") (b := false) rfl (by decide) (by decide) (by decide) ?_)
  | ((with_reducible show RIsi [D.non, D.tup _] _ _ ∨ _); first | refine isi2 (t := "NoneType") (b := true) rfl (by decide) (by decide) (by decide) ?_ | refine isi2 (t := "NoneType") (b := false) rfl (by decide) (by decide) (by decide) ?_)
  | ((with_reducible show RIsi [D.int _, D.raw _] _ _ ∨ _); first | refine isi1 (t := "int") (b := true) rfl (by decide) (by decide) ?_ | refine isi1 (t := "int") (b := false) rfl (by decide) (by decide) ?_)
  | ((with_reducible show RIsi [D.bl _, D.raw _] _ _ ∨ _); first | refine isi1 (t := "bool") (b := true) rfl (by decide) (by decide) ?_ | refine isi1 (t := "bool") (b := false) rfl (by decide) (by decide) ?_)
  | ((with_reducible show RIsi [D.str _, D.raw _] _ _ ∨ _); first | refine isi1 (t := "str") (b := true) rfl (by decide) (by decide) ?_ | refine isi1 (t := "str") (b := false) rfl (by decide) (by decide) ?_)
  | ((with_reducible show RIsi [D.tup _, D.raw _] _ _ ∨ _); first | refine isi1 (t := "tuple") (b := true) rfl (by decide) (by decide) ?_ | refine isi1 (t := "tuple") (b := false) rfl (by decide) (by decide) ?_)
  | ((with_reducible show RIsi [D.lst _, D.raw _] _ _ ∨ _); first | refine isi1 (t := "list") (b := true) rfl (by decide) (by decide) ?_ | refine isi1 (t := "list") (b := false) rfl (by decide) (by decide) ?_)
  | ((with_reducible show RIsi [D.non, D.raw _] _ _ ∨ _); first | refine isi1 (t := "NoneType") (b := true) rfl (by decide) (by decide) ?_ | refine isi1 (t := "NoneType") (b := false) rfl (by decide) (by decide) ?_)
  | ((with_reducible show (∃ i, [D.int _] = [D.int i] ∧ _) ∨ _); refine .inl ⟨_, rfl, ?_⟩))
  | `(tactic| walk_at "eRAdd") => `(tactic| first
  | ((with_reducible show RAdd (D.str _) (D.str _) _ _); refine .inr (.inl ⟨_, _, rfl, rfl, ?_, ?_⟩))
  | ((with_reducible show RAdd (D.int _) (D.int _) _ _); refine .inl ⟨_, _, rfl, rfl, ?_⟩))
  | `(tactic| walk_at "eRSl") => `(tactic| first
  | ((with_reducible show RSl (D.str _) _ _ _ _); refine .inr ⟨_, rfl, ?_, ?_⟩)
  | ((with_reducible show RSl (D.lst _) _ _ _ _); refine .inl ⟨_, .l, ?_⟩))
  | `(tactic| walk_at "eAnd") => `(tactic| first
  | ((with_reducible show (∀ v, D.int _ ≠ D.raw v) ∧ _); refine nr_int ?_)
  | ((with_reducible show (∀ v, D.non ≠ D.raw v) ∧ _); refine nr_non ?_)
  | ((with_reducible show (∀ v, D.tup _ ≠ D.raw v) ∧ _); refine nr_tup ?_)
  | ((with_reducible show (∀ v, D.cel _ ≠ D.raw v) ∧ _); refine ⟨fun v e => (by cases e), ?_⟩)
  | ((with_reducible show (∀ v, D.lst _ ≠ D.raw v) ∧ _); refine ⟨fun v e => (by cases e), ?_⟩)
  | ((with_reducible show List.length _ ≤ sizeLine ∧ _); refine ⟨Nat.le_of_ble_eq_true rfl, ?_⟩))
  | `(tactic| walk_at "eRLen") => `(tactic| first
  | ((with_reducible show RLen [D.lst _] _ _); refine .inl ⟨_, _, rfl, .l, ?_⟩)
  | ((with_reducible show RLen [D.cel _] _ _); refine rlen_cl ?_)
  | ((with_reducible show RLen [D.str _] _ _); refine .inr (.inr ⟨_, rfl, ?_, ?_⟩))
  | ((with_reducible show RLen [D.tup _] _ _); refine .inr (.inl ⟨_, rfl, ?_⟩)))
  | `(tactic| walk_at "eWE") => `(tactic| first
  | ((with_reducible refine gENm ?_); walk_at "n")
  | ((with_reducible refine gECn ?_); walk_at "eWEConstant")
  | ((with_reducible refine gECl ?_); walk_at "eWECall")
  | ((with_reducible show WE _ _ (Expr.Tuple _ _ _) _ _ _); refine we_tup ?_)
  | ((with_reducible refine gECm ?_); walk_at "eWECompare")
  | ((with_reducible refine gEBi ?_); walk_at "eWEBinOp")
  | ((with_reducible show WE _ _ (Expr.UnaryOp _ _ _) _ _ _); walk_at "eWEUnaryOp")
  | ((with_reducible show WE _ _ (Expr.IfExp _ _ _ _) _ _ _); refine we_if ?_)
  | ((with_reducible refine gESu ?_); walk_at "eWESubscript")
  | ((with_reducible refine gEBo ?_); walk_at "eWEBoolOp")
  | ((with_reducible show WE _ _ (Expr.List [] _) _ _ (fun e M2 => REq _ _ _ _ _)); refine we_lst ?_))
  | `(tactic| walk_at "eWT") => `(tactic| first
  | ((with_reducible refine gTCm ?_); walk_at "eWTCompare")
  | ((with_reducible show WT _ _ (Expr.BoolOp _ _ _) _ _ _); refine ww_wt ?_)
  | ((with_reducible show WT _ _ (Expr.UnaryOp UnaryOp.Not _ _) _ _ _); refine wt_not ?_)
  | ((with_reducible show WT _ _ (Expr.Call _ _ _ _) _ _ _); refine wt_val ?_)
  | ((with_reducible show WT _ _ (Expr.Name _ _) _ _ _); refine wt_val ?_))
  | `(tactic| walk_at "e") => `(tactic| first
  | ((with_reducible show WE _ _ _ _ _ _); walk_at "eWE")
  | ((with_reducible show WA _ _ _ _ _ _); walk_at "eWA")
  | ((with_reducible show Exists _); walk_at "eEx")
  | ((with_reducible show WT _ _ _ _ _ _); walk_at "eWT")
  | ((with_reducible show REq _ _ _ _ _); walk_at "eREq")
  | ((with_reducible show if true = true then _ else _); refine iteT' ?_)
  | ((with_reducible show if false = true then _ else _); refine iteF' ?_)
  | ((with_reducible show WW _ _ _ _ _ _); walk_at "eWW")
  | ((with_reducible show RAdd _ _ _ _); walk_at "eRAdd")
  | ((with_reducible show _ ∧ _); walk_at "eAnd")
  | ((with_reducible show RIx _ _ _ _); walk_at "eRIx")
  | ((with_reducible show CL _ _ _); walk_at "cl")
  | ((with_reducible show _ ∨ _); walk_at "eOr")
  | ((with_reducible show WK _ _ _ _ _ _); walk_at "eWK")
  | ((with_reducible show WO _ _ _ _ _ _); walk_at "eWO")
  | ((with_reducible show RSl _ _ _ _ _); walk_at "eRSl")
  | ((with_reducible show onB _ (D.bl _) _); refine ⟨_, rfl, ?_⟩)
  | ((with_reducible show RLen _ _ _); walk_at "eRLen")
  | ((with_reducible show if isNonD _ = true then _ else _); first | refine iteP rfl ?_ | refine iteQ rfl ?_)
  | ((with_reducible show if (!isNonD _) = true then _ else _); first | refine iteP rfl ?_ | refine iteQ rfl ?_)
  | ((with_reducible show if _ = true then _ else _); first | refine iteP (by decide) ?_ | refine iteQ (by decide) ?_))
  | `(tactic| walk_at "sB") => `(tactic| first
  | ((with_reducible show WB _ _ [_] _ _ _); refine wb_one ?_)
  | ((with_reducible show WB _ _ (_ :: _) _ _ _); refine wb_cons ?_)
  | ((with_reducible show WB _ _ [] _ _ _); refine wb_nil ?_))
  | `(tactic| walk_at "sS") => `(tactic| first
  | ((with_reducible show WS _ _ (Stmt.Assign _ _ _) _ _ _); first
     | ((with_reducible show WS _ _ (Stmt.Assign [Expr.Subscript _ _ _] _ _) _ _ _); refine ws_asg ?_)
     | walk_at "t")
  | ((with_reducible show WS _ _ (Stmt.If _ _ _ _) _ _ _); refine ws_if ?_)
  | ((with_reducible show WS _ _ (Stmt.Return _ _) _ _ _); first
     | ((with_reducible show WS _ _ (Stmt.Return (some _) _) _ _ _); refine ws_ret ?_)
     | ((with_reducible show WS _ _ (Stmt.Return none _) _ _ _); refine ws_retN ?_))
  | ((with_reducible show WS _ _ (Stmt.Expr _ _) _ _ _); refine ws_expr ?_)
  | walk_at "t")
  | `(tactic| walk_at "sG") => `(tactic| first
  | ((with_reducible show WG _ _ (Expr.Tuple _ _ _) (D.tup _) _ _ _); refine wg_tup (by assumption) rfl ?_)
  | ((with_reducible show WG _ _ (Expr.Subscript _ _ _) _ _ _ _); refine wg_sub ?_)
  | walk_at "t")
  | `(tactic| walk_at "s") => `(tactic| first
  | ((with_reducible show WB _ _ _ _ _ _); walk_at "sB")
  | ((with_reducible show WS _ _ _ _ _ _); walk_at "sS")
  | ((with_reducible show WG _ _ _ _ _ _ _); walk_at "sG")
  | ((with_reducible show WGs _ _ [] [] _ _ _); refine wgs_nil ?_)
  | ((with_reducible show WGs _ _ (_ :: _) (_ :: _) _ _ _); refine wgs_cons ?_))
  | `(tactic| walk_at "g") => `(tactic| repeat (first
  | ((with_reducible show WB _ _ _ _ _ _); walk_at "s")
  | ((with_reducible show WS _ _ _ _ _ _); walk_at "s")
  | walk_at "e"
  | walk_at "s"))
/-! BooksA -/
def top (i : Nat) : Stmt := PySem.Challenge.pw_keeprests_k58_errors_of_notebooks.main.body.getD i (.Pass ⟨0, 0, 0, 0⟩)
abbrev st_Refused___init__ : Stmt := inClass (top 7) 0
def N_Refused___init__ : List Str := ["self", "place"]
theorem sc_Refused___init__ : FnScope N_Refused___init__ ["self", "place"] (defScope st_Refused___init__) := ⟨rfl, rfl, rfl, by decide +kernel, rfl, by decide +kernel, by decide +kernel⟩
abbrev st_divides : Stmt := top 10
def N_divides : List Str := ["number", "other"]
theorem sc_divides : FnScope N_divides ["number", "other"] (defScope st_divides) := ⟨rfl, rfl, rfl, by decide +kernel, rfl, by decide +kernel, by decide +kernel⟩
abbrev st_do_fit : Stmt := top 11
def N_do_fit : List Str := ["one", "other"]
theorem sc_do_fit : FnScope N_do_fit ["one", "other"] (defScope st_do_fit) := ⟨rfl, rfl, rfl, by decide +kernel, rfl, by decide +kernel, by decide +kernel⟩
abbrev st_Notebook___init__ : Stmt := inClass (top 13) 0
def N_Notebook___init__ : List Str := ["self"]
theorem sc_Notebook___init__ : FnScope N_Notebook___init__ ["self"] (defScope st_Notebook___init__) := ⟨rfl, rfl, rfl, by decide +kernel, rfl, by decide +kernel, by decide +kernel⟩
abbrev st_Notebook_book : Stmt := inClass (top 13) 1
def N_Notebook_book : List Str := ["self"]
theorem sc_Notebook_book : FnScope N_Notebook_book ["self"] (defScope st_Notebook_book) := ⟨rfl, rfl, rfl, by decide +kernel, rfl, by decide +kernel, by decide +kernel⟩
abbrev st_Notebook___len__ : Stmt := inClass (top 13) 2
def N_Notebook___len__ : List Str := ["self"]
theorem sc_Notebook___len__ : FnScope N_Notebook___len__ ["self"] (defScope st_Notebook___len__) := ⟨rfl, rfl, rfl, by decide +kernel, rfl, by decide +kernel, by decide +kernel⟩
abbrev st_Notebook_tell : Stmt := inClass (top 13) 3
def N_Notebook_tell : List Str := ["self", "place", "value", "book", "unfit", "told", "own"]
theorem sc_Notebook_tell : FnScope N_Notebook_tell ["self", "place", "value"] (defScope st_Notebook_tell) := ⟨rfl, rfl, rfl, by decide +kernel, rfl, by decide +kernel, by decide +kernel⟩
abbrev st_Notebook_forget : Stmt := inClass (top 13) 4
def N_Notebook_forget : List Str := ["self", "place", "book", "fewer", "item"]
theorem sc_Notebook_forget : FnScope N_Notebook_forget ["self", "place"] (defScope st_Notebook_forget) := ⟨rfl, rfl, rfl, by decide +kernel, rfl, by decide +kernel, by decide +kernel⟩
abbrev st_Notebook_undo : Stmt := inClass (top 13) 5
def N_Notebook_undo : List Str := ["self"]
theorem sc_Notebook_undo : FnScope N_Notebook_undo ["self"] (defScope st_Notebook_undo) := ⟨rfl, rfl, rfl, by decide +kernel, rfl, by decide +kernel, by decide +kernel⟩
abbrev st_Notebook_mark : Stmt := inClass (top 13) 6
def N_Notebook_mark : List Str := ["self"]
theorem sc_Notebook_mark : FnScope N_Notebook_mark ["self"] (defScope st_Notebook_mark) := ⟨rfl, rfl, rfl, by decide +kernel, rfl, by decide +kernel, by decide +kernel⟩
abbrev st_Notebook_undo_to : Stmt := inClass (top 13) 7
def N_Notebook_undo_to : List Str := ["self", "index"]
theorem sc_Notebook_undo_to : FnScope N_Notebook_undo_to ["self", "index"] (defScope st_Notebook_undo_to) := ⟨rfl, rfl, rfl, by decide +kernel, rfl, by decide +kernel, by decide +kernel⟩
abbrev st_l_bag : Stmt := top 15
def N_l_bag : List Str := ["_law_script", "_law_stir", "_law_cell"]
theorem sc_l_bag : FnScope N_l_bag ["_law_script"] (defScope st_l_bag) := ⟨rfl, rfl, rfl, by decide +kernel, rfl, by decide +kernel, by decide +kernel⟩
abbrev st_l_stirred : Stmt := top 16
def N_l_stirred : List Str := ["_law_bag_here", "_law_wide", "_law_found", "_law_k", "_law_mixed"]
theorem sc_l_stirred : FnScope N_l_stirred ["_law_bag_here", "_law_wide"] (defScope st_l_stirred) := ⟨rfl, rfl, rfl, by decide +kernel, rfl, by decide +kernel, by decide +kernel⟩
abbrev st_l_draw : Stmt := top 17
def N_l_draw : List Str := ["_law_bag_here", "_law_wide", "_law_found"]
theorem sc_l_draw : FnScope N_l_draw ["_law_bag_here", "_law_wide"] (defScope st_l_draw) := ⟨rfl, rfl, rfl, by decide +kernel, rfl, by decide +kernel, by decide +kernel⟩
abbrev st_l_alike : Stmt := top 18
def N_l_alike : List Str := ["_law_found", "_law_due", "_law_k"]
theorem sc_l_alike : FnScope N_l_alike ["_law_found", "_law_due"] (defScope st_l_alike) := ⟨rfl, rfl, rfl, by decide +kernel, rfl, by decide +kernel, by decide +kernel⟩
abbrev st_l_asked : Stmt := top 19
def N_l_asked : List Str := ["_law_way", "_law_notebook", "_law_a", "_law_b", "e", "_law_shown"]
theorem sc_l_asked : FnScope N_l_asked ["_law_way", "_law_notebook", "_law_a", "_law_b"] (defScope st_l_asked) := ⟨rfl, rfl, rfl, by decide +kernel, rfl, by decide +kernel, by decide +kernel⟩
abbrev st_l_state : Stmt := top 20
def N_l_state : List Str := ["_law_notebook"]
theorem sc_l_state : FnScope N_l_state ["_law_notebook"] (defScope st_l_state) := ⟨rfl, rfl, rfl, by decide +kernel, rfl, by decide +kernel, by decide +kernel⟩
abbrev st_l_right : Stmt := top 21
def N_l_right : List Str := ["_law_bag_here", "_law_far", "_law_notebook", "_law_many", "_law_told", "_law_spots_in", "_law_x", "_law_before", "_law_spot", "_law_k"]
theorem sc_l_right : FnScope N_l_right ["_law_bag_here"] (defScope st_l_right) := ⟨rfl, rfl, rfl, by decide +kernel, rfl, by decide +kernel, by decide +kernel⟩
abbrev st_law : Stmt := top 22
def N_law : List Str := ["_law_script", "_law_bag_here", "_law_turn", "_law_notebook", "_law_k", "_law_before", "_law_told"]
theorem sc_law : FnScope N_law ["_law_script"] (defScope st_law) := ⟨rfl, rfl, rfl, by decide +kernel, rfl, by decide +kernel, by decide +kernel⟩
def TDivs : TSp := fun ds M Q _ => ∃ a b : Int, ds = [.int a, .int b] ∧ Q (.bl (decide (a ∣ b))) M
theorem TDivs_mono : Mono TDivs := fun ds M Q Q' E E' h _ ⟨a, b, h1, h2⟩ => ⟨a, b, h1, h _ _ h2⟩
theorem TDivs_len : ∀ ds M Q E, TDivs ds M Q E → ds.length = 2 := fun ds M Q E h => by obtain ⟨_, _, rfl, _⟩ := h; rfl
section
variable {P : Program} {w : World} {K : PySem.W.Frag} {mg : Str → Option Value} {base : Heap}
local macro_rules
  | `(tactic| walk_at "ok") => `(tactic| first
  | ((show BlkOk N_divides (defScope st_divides) _ _); exact blkOk_by (by decide +kernel)))
  | `(tactic| walk_at "n") => `(tactic| first
  | ((with_reducible refine gN "number" ?_); refine we_nm 0 rfl rfl ?_)
  | ((with_reducible refine gN "other" ?_); refine we_nm 1 rfl rfl ?_))
  | `(tactic| walk_at "t") => `(tactic| first
  | ((with_reducible show WS _ _ (Stmt.Assign [Expr.Tuple _ _ _] _ _) _ _ _); refine ws_asg ?_))
theorem fn_divides {f : Addr} {fd : FuncData} (Fn : L2.Fun K "divides" "divides" st_divides f fd) :
    FnOk P w K mg base (L2.CX P w) 1 f fd ["number", "other"] (spG K TDivs) := by
  refine fn_ok Fn sc_divides rfl TDivs_len ?_
  intro cdv A outer s H E N hr ds M Q X' h
  obtain ⟨a, b, rfl, q⟩ := h
  show WB _ _ _ [some _, some _] _ _
  refine wb_one ?_
  walk_at "g"
  refine iteD (fun h0 => ?_) (fun h0 => ?_)
  · subst h0
    walk_at "g"
    rw [show decide ((0 : Int) ∣ b) = decide (b = 0) from by simp [Int.zero_dvd]] at q
    exact q
  · refine we_eq (by walk_at "u") (we_modN ?_)
    walk_at "g"
    rw [show decide (a ∣ b) = decide (b.fmod a = 0) from by
      by_cases h : a ∣ b
      · rw [decide_eq_true h, decide_eq_true (Int.fmod_eq_zero_of_dvd h)]
      · rw [decide_eq_false h, decide_eq_false fun z => h (Int.dvd_of_fmod_eq_zero z)]] at q
    all_goals first | exact q | exact h0
end
/-- two items fit -/
def Fit (x y : Int × Int) : Prop := (x.1 - y.1) ∣ (x.2 - y.2)
instance (x y : Int × Int) : Decidable (Fit x y) := inferInstanceAs (Decidable (_ ∣ _))
def TFit : TSp := fun ds M Q _ => ∃ x y, ds = [itemD x, itemD y] ∧ Q (.bl (decide (Fit x y))) M
theorem TFit_mono : Mono TFit := fun ds M Q Q' E E' h _ ⟨a, b, h1, h2⟩ => ⟨a, b, h1, h _ _ h2⟩
theorem TFit_len : ∀ ds M Q E, TFit ds M Q E → ds.length = 2 := fun ds M Q E h => by obtain ⟨_, _, rfl, _⟩ := h; rfl
section
variable {P : Program} {w : World} {K : PySem.W.Frag} {mg : Str → Option Value} {base : Heap}
local macro_rules
  | `(tactic| walk_at "ok") => `(tactic| first
  | ((show BlkOk N_do_fit (defScope st_do_fit) _ _); exact blkOk_by (by decide +kernel)))
  | `(tactic| walk_at "eWECall") => `(tactic| first
  | ((with_reducible show WE _ _ (Expr.Call (Expr.Name _ _) _ _ _) _ _ _); walk_at "c"))
  | `(tactic| walk_at "n") => `(tactic| first
  | ((with_reducible refine gN "one" ?_); refine we_nm 0 rfl rfl ?_)
  | ((with_reducible refine gN "other" ?_); refine we_nm 1 rfl rfl ?_))
  | `(tactic| walk_at "t") => `(tactic| first
  | ((with_reducible show WS _ _ (Stmt.Assign [Expr.Tuple _ _ _] _ _) _ _ _); refine ws_asg ?_))
  | `(tactic| walk_at "c") => `(tactic| first
  | ((with_reducible refine gCK "divides" ?_); refine we_cl "divides" ?_))
theorem fn_do_fit {f : Addr} {fd : FuncData} (d_div : FD P w K mg base 1 "divides" 2 TDivs) (Fn : L2.Fun K "do_fit" "do_fit" st_do_fit f fd) :
    FnOk P w K mg base (L2.CX P w) 2 f fd ["one", "other"] (spG K TFit) := by
  refine fn_ok Fn sc_do_fit rfl TFit_len ?_
  intro cdv A outer s H E N hr ds M Q X' h
  obtain ⟨x, y, rfl, q⟩ := h
  show WB _ _ _ [some (.tup [.int x.1, .int x.2]), some (.tup [.int y.1, .int y.2])] _ _
  refine wb_one ?_
  walk_at "g"
  exact ⟨_, _, rfl, q⟩
end
/-! BagP -/
def BagL (L : List D) : Prop := ∃ (cells : List Int) (i cur stir cnt : Int), L = [.lst (cells.map D.int), .int i, .int cur, .int stir, .int cnt] ∧ 0 ≤ i ∧ i ≤ cells.length ∧ (∀ c ∈ cells, 0 ≤ c ∧ c.natAbs < 2 ^ 2000) ∧ 0 ≤ cur ∧ cur.natAbs < 2 ^ 2000 ∧ 0 ≤ stir ∧ stir < 2147483647
/-- draws: wide from 1 on, below 2 ^ 2000 -/
def TDraw : TSp := fun ds M Q _ => ∃ (b : Addr) (k : Nat) (L : List D) (wide : Int), ds = [.cel b, .int wide] ∧ M[k]? = some (b, .lst L) ∧ BagL L ∧ 0 < wide ∧ wide.natAbs < 2 ^ 2000 ∧ ∀ r L', 0 ≤ r → r < wide → BagL L' → Q (.int r) (M.set k (b, .lst L'))
theorem TDraw_mono : Mono TDraw := fun ds M Q Q' E E' h _ ⟨b, k, L, wide, h1, h2, h3, h4, h5, h6⟩ => ⟨b, k, L, wide, h1, h2, h3, h4, h5, fun r L' a b c => h _ _ (h6 r L' a b c)⟩
theorem TDraw_len : ∀ ds M Q E, TDraw ds M Q E → ds.length = 2 := fun ds M Q E h => by obtain ⟨_, _, _, _, rfl, _⟩ := h; rfl
theorem set_self {α : Type} : ∀ {l : List α} {k : Nat} {x : α}, l[k]? = some x → l.set k x = l
  | [], _, _, h => by simp at h
  | y :: l, 0, x, h => by simp at h; simp [h]
  | y :: l, k + 1, x, h => by simp [set_self (l := l) (k := k) (by simpa using h)]
section
variable {P : Program} {w : World} {K : PySem.W.Frag} {mg : Str → Option Value} {base : Heap}
local macro_rules
  | `(tactic| walk_at "ok") => `(tactic| first
  | ((show BlkOk N_l_stirred (defScope st_l_stirred) _ _); exact blkOk_by (by decide +kernel)))
  | `(tactic| walk_at "tS") => `(tactic| first
  | ((with_reducible refine gS "_law_found" ?_); refine ws_st 2 ?_)
  | ((with_reducible refine gS "_law_mixed" ?_); refine ws_st 4 ?_))
  | `(tactic| walk_at "tG") => `(tactic| first
  | ((with_reducible refine gG "_law_k" ?_); refine wg_nm 3 ?_))
  | `(tactic| walk_at "eWECall") => `(tactic| first
  | ((with_reducible refine gC "int" ?_); refine we_int2 rfl (by assumption) ?_)
  | ((with_reducible show WE _ _ (Expr.Call (Expr.Attribute _ "bit_length" _) _ _ _) _ _ _); refine we_bits ?_))
  | `(tactic| walk_at "n") => `(tactic| first
  | ((with_reducible refine gN "_law_bag_here" ?_); refine we_nm 0 rfl rfl ?_)
  | ((with_reducible refine gN "_law_wide" ?_); refine we_nm 1 rfl rfl ?_)
  | ((with_reducible refine gN "_law_found" ?_); refine we_nm 2 rfl rfl ?_)
  | ((with_reducible show WE _ _ (Expr.Name "int" _) _ _ _); refine we_bltn (v := .ty "int") rfl (by assumption) (by decide +kernel) rfl ?_)
  | ((with_reducible refine gN "_law_mixed" ?_); refine we_nm 4 rfl rfl ?_))
  | `(tactic| walk_at "t") => `(tactic| first
  | ((with_reducible show WS _ _ (Stmt.Assign [Expr.Name _ _] _ _) _ _ _); walk_at "tS")
  | ((with_reducible show WG _ _ (Expr.Name _ _) _ _ _ _); walk_at "tG")
  | ((with_reducible show WS _ _ (Stmt.Assign [Expr.Tuple _ _ _] _ _) _ _ _); refine ws_asg ?_))
theorem fn_stirred {f : Addr} {fd : FuncData} (b_int : mg "int" = none) (b_range : mg "range" = none) (Fn : L2.Fun K "_law_stirred" "_law_stirred" st_l_stirred f fd) :
    FnOk P w K mg base (L2.CX P w) 1 f fd ["_law_bag_here", "_law_wide"] (spG K TDraw) := by
  refine fn_ok Fn sc_l_stirred rfl TDraw_len ?_
  intro cdv A outer s H E N hr ds M Q X' h
  obtain ⟨b, k, L, wide, rfl, hM, hL, hw, hw2, q⟩ := h
  obtain ⟨cells, i, cur, stir, cnt, rfl, hi0, hi1, hc, hcur0, hcur1, hs0, hs1⟩ := id hL
  show WB _ _ _ [some _, some _, none, none, none] _ _
  refine wb_cons ?_
  walk_at "g"
  refine ws_for N (wi_range1 rfl (by assumption) ?_)
  walk_at "g"
  rotate_left 1
  · exact ⟨by decide, by decide⟩
  have hb1 : Builtin.Int.intBits wide ≤ 2000 := intBits_le hw2
  have hb0 : (0 : Int) ≤ (Builtin.Int.intBits wide : Int) / 27 := by omega
  have hb2 : (Builtin.Int.intBits wide : Int) / 27 ≤ 75 := by omega
  refine ⟨by omega, by omega, fun j δ' M' => ∃ (found stir' cnt' : Int) (x3 x4 : Option D), δ' = [some (.cel b), some (.int wide), some (.int found), x3, x4] ∧ M' = M.set k (b, .lst [.lst (cells.map D.int), .int i, .int cur, .int stir', .int cnt']) ∧
    0 ≤ found ∧ found < 2 ^ (27 * j) ∧ 0 ≤ stir' ∧ stir' < 2147483647, ?_, fun _ _ _ _ _ => trivial, ?_, ?_⟩
  · refine ⟨0, stir, cnt, none, none, rfl, ?_, by omega, by decide, hs0, hs1⟩
    exact (set_self hM).symm
  · rintro j d δ' M' hd ⟨found, stir', cnt', x3, x4, rfl, rfl, hf0, hf1, hs0', hs1'⟩
    obtain ⟨hj, rfl⟩ := rangeD_inv hd
    have hj75 : j ≤ 75 := by omega
    walk_at "g"
    all_goals (first | exact IntMulOk.of_left (by decide) | exact IntMulOk.of_right (by decide) | exact ⟨by decide, by decide⟩ | exact ⟨by decide, by have := intBits_le (i := stir') (n := 31) (by omega); omega⟩ | decide | skip)
    have z0 := Int.emod_nonneg (stir' ^ Int.toNat 3 + 69621 * stir' + 1031 * (cnt' + 1) + 1) (show (2147483647 : Int) ≠ 0 by decide)
    have z1 := Int.emod_lt_of_pos (stir' ^ Int.toNat 3 + 69621 * stir' + 1031 * (cnt' + 1) + 1) (show (0 : Int) < 2147483647 by decide)
    refine ⟨_, _, _, _, _, rfl, rfl, ?_, ?_, z0, z1⟩
    · omega
    · have e : (2 : Int) ^ (27 * (j + 1)) = 2 ^ (27 * j) * 134217728 := by rw [Nat.mul_add, Int.pow_add]; rfl
      rw [e]
      omega
  · rintro δ' M' ⟨found, stir', cnt', x3, x4, rfl, rfl, hf0, hf1, hs0', hs1'⟩
    walk_at "g"
    any_goals exact hw
    exact q _ _ (Int.emod_nonneg _ (by omega)) (Int.emod_lt_of_pos _ hw) ⟨cells, i, cur, stir', cnt', rfl, hi0, hi1, hc, hcur0, hcur1, hs0', hs1'⟩
end
section
variable {P : Program} {w : World} {K : PySem.W.Frag} {mg : Str → Option Value} {base : Heap}
local macro_rules
  | `(tactic| walk_at "ok") => `(tactic| first
  | ((show BlkOk N_l_draw (defScope st_l_draw) _ _); exact blkOk_by (by decide +kernel)))
  | `(tactic| walk_at "tS") => `(tactic| first
  | ((with_reducible refine gS "_law_found" ?_); refine ws_st 2 ?_))
  | `(tactic| walk_at "eWECall") => `(tactic| first
  | ((with_reducible refine gC "int" ?_); refine we_int2 rfl (by assumption) ?_)
  | ((with_reducible refine gC "len" ?_); refine we_len rfl (by assumption) ?_)
  | ((with_reducible show WE _ _ (Expr.Call (Expr.Name _ _) _ _ _) _ _ _); walk_at "c"))
  | `(tactic| walk_at "n") => `(tactic| first
  | ((with_reducible refine gN "_law_bag_here" ?_); refine we_nm 0 rfl rfl ?_)
  | ((with_reducible refine gN "_law_wide" ?_); refine we_nm 1 rfl rfl ?_)
  | ((with_reducible refine gN "_law_found" ?_); refine we_nm 2 rfl rfl ?_)
  | ((with_reducible show WE _ _ (Expr.Name "int" _) _ _ _); refine we_bltn (v := .ty "int") rfl (by assumption) (by decide +kernel) rfl ?_))
  | `(tactic| walk_at "t") => `(tactic| first
  | ((with_reducible show WS _ _ (Stmt.Assign [Expr.Name _ _] _ _) _ _ _); walk_at "tS")
  | ((with_reducible show WS _ _ (Stmt.Assign [Expr.Tuple _ _ _] _ _) _ _ _); refine ws_asg ?_))
  | `(tactic| walk_at "c") => `(tactic| first
  | ((with_reducible refine gCK "_law_stirred" ?_); refine we_cl "_law_stirred" ?_))
theorem fn_draw {f : Addr} {fd : FuncData} (b_len : mg "len" = none) (b_int : mg "int" = none) (d_stirred : FD P w K mg base 1 "_law_stirred" 2 TDraw) (Fn : L2.Fun K "_law_draw" "_law_draw" st_l_draw f fd) :
    FnOk P w K mg base (L2.CX P w) 2 f fd ["_law_bag_here", "_law_wide"] (spG K TDraw) := by
  refine fn_ok Fn sc_l_draw rfl TDraw_len ?_
  intro cdv A outer s H E N hr ds M Q X' h
  obtain ⟨b, k, L, wide, rfl, hM, hL, hw, hw2, q⟩ := h
  obtain ⟨cells, i, cur, stir, cnt, rfl, hi0, hi1, hc, hcur0, hcur1, hs0, hs1⟩ := id hL
  show WB _ _ _ [some _, some _, none] _ _
  refine wb_cons ?_
  walk_at "g"
  have fin : ∀ (i cur : Int), 0 ≤ i → i ≤ cells.length → 0 ≤ cur → cur.natAbs < 2 ^ 2000 → Q (.int (cur % wide)) (M.set k (b, .lst [.lst (cells.map D.int), .int i, .int (cur / wide), .int stir, .int cnt])) := by
    intro i cur hi0 hi1 hcur0 hcur1
    refine q _ _ (Int.emod_nonneg _ (by omega)) (Int.emod_lt_of_pos _ hw) ⟨cells, i, _, stir, cnt, rfl, hi0, hi1, hc, Int.ediv_nonneg hcur0 (by omega), ?_, hs0, hs1⟩
    have h1 := Int.ediv_nonneg hcur0 (show (0 : Int) ≤ wide by omega)
    have h2 := Int.ediv_le_self wide hcur0
    exact Nat.lt_of_le_of_lt (by show (cur / wide).natAbs ≤ cur.natAbs; omega) hcur1
  have cw : ∀ cur, CDivW cur wide := fun cur => ⟨hw, Nat.lt_of_lt_of_le (log2_lt hw2 (by decide)) (by decide)⟩
  refine iteD (fun h0 => ?_) (fun h0 => ?_)
  · walk_at "g"
    rw [List.length_map]
    refine iteD (fun h1 => ?_) (fun h1 => ?_)
    · obtain ⟨n, rfl⟩ := Int.eq_ofNat_of_zero_le hi0
      have hn : n < cells.length := by exact_mod_cast h1
      have hcn := hc _ (List.getElem_mem hn)
      walk_at "g"
      refine ⟨.int cells[n], atI_nat (by simp [hn]), ?_⟩
      walk_at "g"
      rotate_left 1
      · exact cw _
      · exact hw
      have z := fin ((n : Int) + 1) cells[n] (by omega) (by omega) hcn.1 hcn.2
      exact z
    · walk_at "g"
      refine iteD (fun _ => ?_) (fun z => absurd h0 z)
      walk_at "g"
      exact ⟨b, k, _, wide, rfl, hM, hL, hw, hw2, q⟩
  · walk_at "g"
    refine iteD (fun z => absurd z h0) (fun _ => ?_)
    walk_at "g"
    rotate_left 1
    · exact cw _
    · exact hw
    exact fin i cur hi0 hi1 hcur0 hcur1
end
theorem cutD_int (ns : List Int) (l u : Option Int) : ∃ ms : List Int, cutD (ns.map D.int) l u = ms.map D.int ∧ ms.length ≤ ns.length := by
  refine ⟨(ns.drop (HT.sIx ns.length 0 l)).take (HT.sIx ns.length ns.length u - HT.sIx ns.length 0 l), ?_, ?_⟩
  · unfold cutD
    rw [List.length_map, ← List.map_drop, ← List.map_take]
  · rw [List.length_take, List.length_drop]; omega
/-- the bag of a script -/
def TBag : TSp := fun ds M Q _ => ∃ ns : List Int, ds = [.lst (ns.map D.int)] ∧ ns.length ≤ 1000 ∧ ∀ p L, BagL L → Q (.cel p) ((p, .lst L) :: M)
theorem TBag_mono : Mono TBag := fun ds M Q Q' E E' h _ ⟨ns, h1, h2, h3⟩ => ⟨ns, h1, h2, fun p L a => h _ _ (h3 p L a)⟩
theorem TBag_len : ∀ ds M Q E, TBag ds M Q E → ds.length = 1 := fun ds M Q E h => by obtain ⟨_, rfl, _⟩ := h; rfl
def fBag : D → D | .int c => .int ((if c < 0 then -c else c) % (10 ^ 60) ^ 10) | d => d
section
variable {P : Program} {w : World} {K : PySem.W.Frag} {mg : Str → Option Value} {base : Heap}
local macro_rules
  | `(tactic| walk_at "ok") => `(tactic| first
  | ((show BlkOk N_l_bag (defScope st_l_bag) _ _); exact blkOk_by (by decide +kernel)))
  | `(tactic| walk_at "tS") => `(tactic| first
  | ((with_reducible refine gS "_law_stir" ?_); refine ws_st 1 ?_))
  | `(tactic| walk_at "tG") => `(tactic| first
  | ((with_reducible refine gG "_law_cell" ?_); refine wg_nm 2 ?_))
  | `(tactic| walk_at "eWECall") => `(tactic| first
  | ((with_reducible refine gC "int" ?_); refine we_int2 rfl (by assumption) ?_)
  | ((with_reducible refine gC "abs" ?_); refine we_abs rfl (by assumption) ?_))
  | `(tactic| walk_at "n") => `(tactic| first
  | ((with_reducible show WE _ _ (Expr.Name "int" _) _ _ _); refine we_bltn (v := .ty "int") rfl (by assumption) (by decide +kernel) rfl ?_)
  | ((with_reducible refine gN "_law_script" ?_); refine we_nm 0 rfl rfl ?_)
  | ((with_reducible refine gN "_law_stir" ?_); refine we_nm 1 rfl rfl ?_)
  | ((with_reducible refine gN "_law_cell" ?_); refine we_nm 2 rfl rfl ?_))
  | `(tactic| walk_at "t") => `(tactic| first
  | ((with_reducible show WS _ _ (Stmt.Assign [Expr.Name _ _] _ _) _ _ _); walk_at "tS")
  | ((with_reducible show WG _ _ (Expr.Name _ _) _ _ _ _); walk_at "tG")
  | ((with_reducible show WS _ _ (Stmt.Assign [Expr.Tuple _ _ _] _ _) _ _ _); refine ws_asg ?_))
  | `(tactic| walk_at "tg") => `(tactic| first
  | exact Tg.one (i := 2) rfl rfl)
theorem fn_bag {f : Addr} {fd : FuncData} (b_int : mg "int" = none) (b_abs : mg "abs" = none) (Fn : L2.Fun K "_law_bag" "_law_bag" st_l_bag f fd) :
    FnOk P w K mg base (L2.CX P w) 1 f fd ["_law_script"] (spG K TBag) := by
  refine fn_ok Fn sc_l_bag rfl TBag_len ?_
  intro cdv A outer s H E N hr ds M Q X' h
  obtain ⟨ns, rfl, hns, q⟩ := h
  obtain ⟨ms, hms, hml⟩ := cutD_int ns none (some 63)
  show WB _ _ _ [some _, none, none] _ _
  refine wb_cons ?_
  walk_at "g"
  refine ws_for N (wi_list ?_)
  walk_at "g"
  refine ⟨_, .l, ?_⟩
  rw [hms]
  refine ⟨fun j δ' M' => ∃ (stir : Int) (x2 : Option D), δ' = [some (.lst (ns.map D.int)), some (.int stir), x2] ∧ M' = M ∧ 0 ≤ stir ∧ stir < 2147483647, ?_, ?_, ?_, ?_⟩
  · exact ⟨179, none, rfl, rfl, by decide, by decide⟩
  · rintro j δ' M' hj ⟨stir, x2, rfl, rfl, h0, h1⟩
    exact .l
  · rintro j d δ' M' hd ⟨stir, x2, rfl, rfl, h0, h1⟩
    obtain ⟨c, rfl⟩ : ∃ c, d = .int c := by
      rw [List.getElem?_map] at hd
      cases e : ms[j]? with
      | none => rw [e] at hd; cases hd
      | some c => rw [e] at hd; cases hd; exact ⟨c, rfl⟩
    walk_at "g"
    all_goals (first | exact IntMulOk.of_right (by decide) | decide | skip)
    refine ⟨_, _, rfl, rfl, Int.emod_nonneg _ (by decide), Int.emod_lt_of_pos _ (by decide)⟩
  · rintro δ' M' ⟨stir, x2, rfl, rfl, h0, h1⟩
    walk_at "g"
    refine we_lstC (wa_cons (we_froz 0 (we_lcM fBag N (by walk_at "tg") (by walk_at "ok") (wi_list ?_))))
    walk_at "g"
    refine ⟨_, .l, ?_⟩
    rw [hms]
    refine ⟨?_, fun _ _ => .l, ?_, ?_⟩
    · rw [List.length_map]
      exact Nat.le_trans hml (Nat.le_trans hns (by decide))
    · intro i d acc p hd
      obtain ⟨c, rfl⟩ : ∃ c, d = .int c := by
        rw [List.getElem?_map] at hd
        cases e : ms[i]? with
        | none => rw [e] at hd; cases hd
        | some c => rw [e] at hd; cases hd; exact ⟨c, rfl⟩
      refine ⟨_, rfl, fun B => ?_⟩
      walk_at "g"
      all_goals (first | exact ⟨rfl, rfl⟩ | exact ⟨by decide, by decide⟩ | decide | skip)
    · intro p
      refine ⟨p, _, rfl, rfl, ?_⟩
      walk_at "g"
      refine fun p' => q p' _ ⟨ms.map fun c => (if c < 0 then -c else c) % (10 ^ 60) ^ 10, 0, 0, stir, 0, by rw [List.map_map, List.map_map]; rfl, by decide, by omega, ?_, by decide, by decide, h0, h1⟩
      intro c hc
      obtain ⟨c, _, rfl⟩ := List.mem_map.mp hc
      have z0 := Int.emod_nonneg (if c < 0 then -c else c) (show ((10 : Int) ^ 60) ^ 10 ≠ 0 by decide)
      have z1 := Int.emod_lt_of_pos (if c < 0 then -c else c) (show (0 : Int) < ((10 : Int) ^ 60) ^ 10 by decide)
      refine ⟨z0, ?_⟩
      have e : ((10 : Int) ^ 60) ^ 10 < ((2 ^ 2000 : Nat) : Int) := by decide
      omega
end
section
variable {P : Program} {w : World} {K : PySem.W.Frag} {mg : Str → Option Value} {base : Heap}
local macro_rules
  | `(tactic| walk_at "ok") => `(tactic| first
  | ((show BlkOk N_l_alike (defScope st_l_alike) _ _); exact blkOk_by (by decide +kernel)))
  | `(tactic| walk_at "tG") => `(tactic| first
  | ((with_reducible refine gG "_law_k" ?_); refine wg_nm 2 ?_))
  | `(tactic| walk_at "eWECall") => `(tactic| first
  | ((with_reducible refine gC "isinstance" ?_); refine we_isi rfl (by assumption) ?_)
  | ((with_reducible refine gC "all" ?_); refine we_all rfl rfl (by assumption) ?_)
  | ((with_reducible refine gC "len" ?_); refine we_len rfl (by assumption) ?_)
  | ((with_reducible show WE _ _ (Expr.Call (Expr.Name _ _) _ _ _) _ _ _); walk_at "c"))
  | `(tactic| walk_at "n") => `(tactic| first
  | ((with_reducible refine gN "_law_due" ?_); refine we_nm 1 rfl rfl ?_)
  | ((with_reducible refine gN "_law_found" ?_); refine we_nm 0 rfl rfl ?_)
  | ((with_reducible show WE _ _ (Expr.Name "list" _) _ _ _); refine we_bltn (v := .ty "list") rfl (by assumption) (by decide +kernel) rfl ?_)
  | ((with_reducible refine gN "_law_k" ?_); refine we_nm 2 rfl rfl ?_)
  | ((with_reducible show WE _ _ (Expr.Name "int" _) _ _ _); refine we_bltn (v := .ty "int") rfl (by assumption) (by decide +kernel) rfl ?_)
  | ((with_reducible show WE _ _ (Expr.Name "bool" _) _ _ _); refine we_bltn (v := .ty "bool") rfl (by assumption) (by decide +kernel) rfl ?_)
  | ((with_reducible show WE _ _ (Expr.Name "str" _) _ _ _); refine we_bltn (v := .ty "str") rfl (by assumption) (by decide +kernel) rfl ?_)
  | ((with_reducible show WE _ _ (Expr.Name "tuple" _) _ _ _); refine we_bltn (v := .ty "tuple") rfl (by assumption) (by decide +kernel) rfl ?_))
  | `(tactic| walk_at "t") => `(tactic| first
  | ((with_reducible show WG _ _ (Expr.Name _ _) _ _ _ _); walk_at "tG")
  | ((with_reducible show WS _ _ (Stmt.Assign [Expr.Tuple _ _ _] _ _) _ _ _); refine ws_asg ?_))
  | `(tactic| walk_at "c") => `(tactic| first
  | ((with_reducible refine gCK "_law_alike" ?_); refine we_cl "_law_alike" ?_))
  | `(tactic| walk_at "tg") => `(tactic| first
  | exact Tg.one (i := 2) rfl rfl)
theorem fn_alike {f : Addr} {fd : FuncData} (b_isi : mg "isinstance" = none) (b_len : mg "len" = none) (b_all : mg "all" = none) (b_range : mg "range" = none) (b_bool : mg "bool" = none) (b_int : mg "int" = none) (b_str : mg "str" = none) (b_list : mg "list" = none) (b_tuple : mg "tuple" = none)
    (Fn : L2.Fun K "_law_alike" "_law_alike" st_l_alike f fd) (k n : Nat) (d_alike : ∀ m, n = m + 1 → FD P w K mg base k "_law_alike" 2 (TAlk m)) :
    FnOk P w K mg base (L2.CX P w) (k + 1) f fd ["_law_found", "_law_due"] (spG K (TAlk n)) := by
  refine fn_ok Fn sc_l_alike rfl (TAlk_len n) ?_
  intro cdv A outer s H E N hr ds M Q X' h
  obtain ⟨d, e, rfl, ha, q⟩ := h
  show WB _ _ _ [some _, some _, none] _ _
  refine wb_cons ?_
  cases ha with
  | non =>
    walk_at "g"
    refine req_n ?_
    exact q
  | int i =>
    walk_at "g"
    rw [decide_eq_true rfl]
    exact q
  | bl i =>
    walk_at "g"
    rw [decide_eq_true rfl]
    exact q
  | str i =>
    walk_at "g"
    rw [decide_eq_true rfl]
    exact q
  | @seq m _ _ t ds es h1 h2 hl hz ha =>
    have ht : t = "list" ∨ t = "tuple" := h1.elim (fun z => .inl z.1) fun z => .inr z.1
    have hb : (isT t "list" || isT t "tuple") = true := by rcases ht with rfl | rfl <;> decide
    have dl := d_alike m rfl
    walk_at "g"
    refine isi2 h2.ty (by decide) (by decide) hb ?_
    walk_at "g"
    refine isi2 h1.ty (by decide) (by decide) hb ?_
    walk_at "g"
    refine isi1 h1.ty (by decide) rfl ?_
    walk_at "g"
    refine isi1 h2.ty (by decide) rfl ?_
    walk_at "g"
    refine iteQ (by simp) ?_
    walk_at "g"
    refine h1.len ?_
    walk_at "g"
    refine h2.len ?_
    walk_at "g"
    refine iteQ (by simp [hl]) ?_
    walk_at "g"
    refine we_froz 0 (we_lcM (fun _ => .bl true) N (by walk_at "tg") (by walk_at "ok") (wi_range1 rfl (by assumption) ?_))
    walk_at "g"
    refine h2.len ?_
    walk_at "g"
    refine ⟨by omega, by omega, ?_, fun _ _ => trivial, ?_, ?_⟩
    · rw [rangeD_len, Int.toNat_natCast]
      exact Nat.le_trans hz (by decide)
    · intro i x acc p hd
      obtain ⟨hi, rfl⟩ := rangeD_inv hd
      rw [Int.toNat_natCast] at hi
      refine ⟨_, rfl, fun B => ?_⟩
      have e1 : ds[i]? = some (ds[i]'(by omega)) := List.getElem?_eq_getElem _
      have e2 : es[i]? = some (es[i]'hi) := List.getElem?_eq_getElem _
      walk_at "g"
      refine h1.cons.ix (by rw [Int.zero_add]; exact atI_nat e1) ?_
      walk_at "g"
      refine h2.cons.ix (by rw [Int.zero_add]; exact atI_nat e2) ?_
      walk_at "g"
      exact ⟨_, _, rfl, (ha i _ _ e1 e2).cons, rfl, rfl⟩
    · intro p
      refine ⟨p, _, rfl, rfl, ?_⟩
      walk_at "g"
      refine ⟨_, List.replicate es.length true, rfl, ?_, ?_⟩
      · rw [show (List.map D.bl (List.replicate es.length true)) = List.map (fun _ => D.bl true) (rangeD 0 (↑es.length : Int).toNat) from by
          rw [Int.toNat_natCast, List.map_replicate, List.map_const', rangeD_len]]
        exact .l
      · have e : (List.replicate es.length true).all id = true := by simp
        rw [e]
        exact q
end
/-! NbA -/
abbrev Bk := List (Int × Int)
/-- the books behind all calls that hold -/
abbrev statesD (ss : List Bk) : D := .lst (ss.map fun b => D.lst (bookD b))
def NbF (ss : List Bk) : List (Str × D) := [("notebook_states", statesD ss)]
/-- a notebook at a, in the cell k -/
def NbAt (C : Addr) (M : Cells) (a : Addr) (k : Nat) (dx : Addr) (ss : List Bk) : Prop := M[k]? = some (a, Cell.ins C dx (NbF ss))
def lastB (ss : List Bk) : Bk := ss.getLast?.getD []
theorem states_len (ss : List Bk) : (ss.map fun b => D.lst (bookD b)).length = ss.length := List.length_map ..
theorem states_last {ss : List Bk} (h : ss ≠ []) : atI (ss.map fun b => D.lst (bookD b)) (-1) = some (.lst (bookD (lastB ss))) := by
  have hp : 0 < ss.length := List.length_pos_iff.mpr h
  have e : (ss.map fun b => D.lst (bookD b))[ss.length - 1]? = some (.lst (bookD (lastB ss))) := by
    rw [List.getElem?_map]
    unfold lastB
    rw [List.getLast?_eq_getElem?, List.getElem?_eq_getElem (by omega)]
    rfl
  unfold atI
  rw [show ixN (ss.map fun b => D.lst (bookD b)).length (-1) = some (ss.length - 1) by rw [states_len]; unfold ixN; rw [if_neg (by omega), if_pos (by omega)]; congr 1; omega]
  exact e
/-- Notebook() -/
def TInit (C : Addr) : TSp := fun ds M Q _ => ∃ (a : Addr) (k : Nat) (dx : Addr), ds = [.cel a] ∧ M[k]? = some (a, Cell.ins C dx []) ∧ Q .non (M.set k (a, Cell.ins C dx (NbF [[]])))
theorem TInit_mono (C : Addr) : Mono (TInit C) := fun ds M Q Q' E E' h _ ⟨a, k, dx, h1, h2, h3⟩ => ⟨a, k, dx, h1, h2, h _ _ h3⟩
theorem TInit_len (C : Addr) : ∀ ds M Q E, TInit C ds M Q E → ds.length = 1 := fun ds M Q E h => by obtain ⟨_, _, _, rfl, _⟩ := h; rfl
section
variable {P : Program} {w : World} {K : PySem.W.Frag} {mg : Str → Option Value} {base : Heap}
local macro_rules
  | `(tactic| walk_at "ok") => `(tactic| first
  | ((show BlkOk N_Notebook___init__ (defScope st_Notebook___init__) _ _); exact blkOk_by (by decide +kernel)))
  | `(tactic| walk_at "t") => `(tactic| first
  | ((with_reducible show WS _ _ (Stmt.Assign [Expr.Attribute _ "notebook_states" _] _ _) _ _ _); refine ws_fld ?_))
  | `(tactic| walk_at "n") => `(tactic| first
  | ((with_reducible refine gN "self" ?_); refine we_nm 0 rfl rfl ?_))
local macro_rules | `(tactic| walk_at "t") => `(tactic| first
  | ((with_reducible show WS _ _ (Stmt.Assign [Expr.Tuple _ _ _] _ _) _ _ _); refine ws_asg ?_))
theorem fn_nb_init {f : Addr} {fd : FuncData} {C : Addr} (c : ObC K C ["notebook_states"]) (Fn : L2.Fun K "__init__" "Notebook.__init__" st_Notebook___init__ f fd) :
    FnOk P w K mg base (L2.CX P w) 1 f fd ["self"] (spG K (TInit C)) := by
  refine fn_ok Fn sc_Notebook___init__ rfl (TInit_len C) ?_
  intro cdv A outer s H E N hr ds M Q X' h
  obtain ⟨a, k, dx, rfl, hk, q⟩ := h
  show WB _ _ _ [some _] _ _
  refine wb_one ?_
  walk_at "g"
  refine we_lst ?_
  walk_at "g"
  refine we_lst ?_
  walk_at "g"
  refine ⟨a, k, C, dx, [], rfl, hk, c.c, c.n _ (by simp), by decide, ?_⟩
  exact q
end
/-! NbB -/
/-- states as they are kept: some, few, their books small -/
structure StOk (ss : List Bk) : Prop where
  ne : ss ≠ []
  few : ss.length ≤ 1000
  sm : ∀ b ∈ ss, b.length ≤ 24
theorem StOk.last {ss : List Bk} (h : StOk ss) : (lastB ss).length ≤ 24 := by
  unfold lastB
  cases e : ss.getLast? with
  | none => simp
  | some b => exact h.sm b (List.mem_of_getLast? e)
theorem states_snoc (ss : List Bk) (b : Bk) : (ss.map fun b => D.lst (bookD b)) ++ [D.lst (bookD b)] = (ss ++ [b]).map fun b => D.lst (bookD b) := by rw [List.map_append]; rfl
theorem bookD_len (xs : Bk) : (bookD xs).length = xs.length := by unfold bookD; rw [List.length_map]
theorem cutD_k (ds : List D) (n : Nat) : cutD ds (some (n : Int)) none = ds.drop n := by
  unfold cutD
  have e : HT.sIx ds.length 0 (some (n : Int)) = min n ds.length := by
    show (if (n : Int) < 0 then ((n : Int) + (ds.length : Int)).toNat else min (n : Int).toNat ds.length) = _
    rw [if_neg (by omega)]; rfl
  have e0 : HT.sIx ds.length ds.length none = ds.length := rfl
  rw [e, e0]
  rcases Nat.le_total n ds.length with h | h
  · rw [Nat.min_eq_left h, List.take_of_length_le (by rw [List.length_drop]; exact Nat.le_refl _)]
  · rw [Nat.min_eq_right h, Nat.sub_self, List.take_zero, List.drop_of_length_le h]
theorem cutD_0 (ds : List D) (n : Nat) : cutD ds none (some (n : Int)) = ds.take n := by
  unfold cutD
  have e : HT.sIx ds.length ds.length (some (n : Int)) = min n ds.length := by
    show (if (n : Int) < 0 then ((n : Int) + (ds.length : Int)).toNat else min (n : Int).toNat ds.length) = _
    rw [if_neg (by omega)]; rfl
  have e0 : HT.sIx ds.length 0 none = 0 := rfl
  rw [e, e0, Nat.sub_zero, List.drop_zero]
  rcases Nat.le_total n ds.length with h | h
  · rw [Nat.min_eq_left h]
  · rw [Nat.min_eq_right h, List.take_length, List.take_of_length_le h]
theorem cutD_m1 (ds : List D) : cutD ds none (some (-1)) = ds.take (ds.length - 1) := by
  unfold cutD
  have e : HT.sIx ds.length ds.length (some (-1)) = ds.length - 1 := by
    show (if (-1 : Int) < 0 then ((-1 : Int) + (ds.length : Int)).toNat else min (-1 : Int).toNat ds.length) = _
    rw [if_pos (by decide)]; omega
  have e0 : HT.sIx ds.length 0 none = 0 := rfl
  rw [e, e0]
  simp
/-- nb.book: a new list -/
def TBkP (C : Addr) : TSp := fun ds M Q _ => ∃ (a : Addr) (k : Nat) (dx : Addr) (ss : List Bk), ds = [.cel a] ∧ NbAt C M a k dx ss ∧ StOk ss ∧ ∀ p, Q (.cel p) ((p, .lst (bookD (lastB ss))) :: M)
theorem TBkP_mono (C : Addr) : Mono (TBkP C) := fun ds M Q Q' E E' h _ ⟨a, k, dx, ss, h1, h2, h3, h4⟩ => ⟨a, k, dx, ss, h1, h2, h3, fun p => h _ _ (h4 p)⟩
theorem TBkP_len (C : Addr) : ∀ ds M Q E, TBkP C ds M Q E → ds.length = 1 := fun ds M Q E h => by obtain ⟨_, _, _, _, rfl, _⟩ := h; rfl
section
variable {P : Program} {w : World} {K : PySem.W.Frag} {mg : Str → Option Value} {base : Heap}
local macro_rules
  | `(tactic| walk_at "ok") => `(tactic| first
  | ((show BlkOk N_Notebook_book (defScope st_Notebook_book) _ _); exact blkOk_by (by decide +kernel)))
  | `(tactic| walk_at "eWECall") => `(tactic| first
  | ((with_reducible refine gC "list" ?_); refine we_list rfl (by assumption) ?_))
  | `(tactic| walk_at "eWE") => `(tactic| first
  | ((with_reducible show WE _ _ (Expr.Attribute _ "notebook_states" _) _ _ _); refine we_fld ?_))
  | `(tactic| walk_at "n") => `(tactic| first
  | ((with_reducible refine gN "self" ?_); refine we_nm 0 rfl rfl ?_)
  | ((with_reducible show WE _ _ (Expr.Name "list" _) _ _ _); refine we_bltn (v := .ty "list") rfl (by assumption) (by decide +kernel) rfl ?_))
  | `(tactic| walk_at "t") => `(tactic| first
  | ((with_reducible show WS _ _ (Stmt.Assign [Expr.Tuple _ _ _] _ _) _ _ _); refine ws_asg ?_))
theorem fn_nb_book {f : Addr} {fd : FuncData} {C : Addr} (c : ObC K C ["notebook_states"]) (b_list : mg "list" = none) (Fn : L2.Fun K "book" "Notebook.book" st_Notebook_book f fd) :
    FnOk P w K mg base (L2.CX P w) 1 f fd ["self"] (spG K (TBkP C)) := by
  refine fn_ok Fn sc_Notebook_book rfl (TBkP_len C) ?_
  intro cdv A outer s H E N hr ds M Q X' h
  obtain ⟨a, k, dx, ss, rfl, hk, ho, q⟩ := h
  show WB _ _ _ [some _] _ _
  refine wb_one (ws_ret ?_)
  refine we_listC rfl (by assumption) ?_
  walk_at "g"
  refine ⟨a, k, C, dx, _, _, rfl, hk, c.c, c.n _ (by simp), rfl, ?_⟩
  walk_at "g"
  refine ⟨_, states_last ho.ne, ?_⟩
  walk_at "g"
  exact ⟨_, _, rfl, .inl .l, q⟩
end
/-- len(nb), nb.mark() -/
def TNbLen (C : Addr) : TSp := fun ds M Q _ => ∃ (a : Addr) (k : Nat) (dx : Addr) (ss : List Bk), ds = [.cel a] ∧ NbAt C M a k dx ss ∧ StOk ss ∧ Q (.int ((ss.length : Int) - 1)) M
theorem TNbLen_mono (C : Addr) : Mono (TNbLen C) := fun ds M Q Q' E E' h _ ⟨a, k, dx, ss, h1, h2, h3, h4⟩ => ⟨a, k, dx, ss, h1, h2, h3, h _ _ h4⟩
theorem TNbLen_len (C : Addr) : ∀ ds M Q E, TNbLen C ds M Q E → ds.length = 1 := fun ds M Q E h => by obtain ⟨_, _, _, _, rfl, _⟩ := h; rfl
section
variable {P : Program} {w : World} {K : PySem.W.Frag} {mg : Str → Option Value} {base : Heap}
local macro_rules
  | `(tactic| walk_at "ok") => `(tactic| first
  | ((show BlkOk N_Notebook___len__ (defScope st_Notebook___len__) _ _); exact blkOk_by (by decide +kernel)))
  | `(tactic| walk_at "eWECall") => `(tactic| first
  | ((with_reducible refine gC "len" ?_); refine we_len rfl (by assumption) ?_))
  | `(tactic| walk_at "eWE") => `(tactic| first
  | ((with_reducible show WE _ _ (Expr.Attribute _ "notebook_states" _) _ _ _); refine we_fld ?_))
  | `(tactic| walk_at "n") => `(tactic| first
  | ((with_reducible refine gN "self" ?_); refine we_nm 0 rfl rfl ?_))
  | `(tactic| walk_at "t") => `(tactic| first
  | ((with_reducible show WS _ _ (Stmt.Assign [Expr.Tuple _ _ _] _ _) _ _ _); refine ws_asg ?_))
theorem fn_nb_len {f : Addr} {fd : FuncData} {C : Addr} (c : ObC K C ["notebook_states"]) (b_len : mg "len" = none) (Fn : L2.Fun K "__len__" "Notebook.__len__" st_Notebook___len__ f fd) :
    FnOk P w K mg base (L2.CX P w) 1 f fd ["self"] (spG K (TNbLen C)) := by
  refine fn_ok Fn sc_Notebook___len__ rfl (TNbLen_len C) ?_
  intro cdv A outer s H E N hr ds M Q X' h
  obtain ⟨a, k, dx, ss, rfl, hk, ho, q⟩ := h
  show WB _ _ _ [some _] _ _
  refine wb_one ?_
  walk_at "g"
  refine ⟨a, k, C, dx, _, _, rfl, hk, c.c, c.n _ (by simp), rfl, ?_⟩
  walk_at "g"
  rw [show (some 1 : Option Int) = some ((1 : Nat) : Int) from rfl, cutD_k]
  rw [List.length_drop, states_len, show ((ss.length - 1 : Nat) : Int) = (ss.length : Int) - 1 by have := List.length_pos_iff.mpr ho.ne; omega]
  exact q
end
section
variable {P : Program} {w : World} {K : PySem.W.Frag} {mg : Str → Option Value} {base : Heap}
local macro_rules
  | `(tactic| walk_at "ok") => `(tactic| first
  | ((show BlkOk N_Notebook_mark (defScope st_Notebook_mark) _ _); exact blkOk_by (by decide +kernel)))
  | `(tactic| walk_at "eWECall") => `(tactic| first
  | ((with_reducible refine gC "len" ?_); refine we_len rfl (by assumption) ?_))
  | `(tactic| walk_at "eWE") => `(tactic| first
  | ((with_reducible show WE _ _ (Expr.Attribute _ "notebook_states" _) _ _ _); refine we_fld ?_))
  | `(tactic| walk_at "n") => `(tactic| first
  | ((with_reducible refine gN "self" ?_); refine we_nm 0 rfl rfl ?_))
  | `(tactic| walk_at "t") => `(tactic| first
  | ((with_reducible show WS _ _ (Stmt.Assign [Expr.Tuple _ _ _] _ _) _ _ _); refine ws_asg ?_))
theorem fn_nb_mark {f : Addr} {fd : FuncData} {C : Addr} (c : ObC K C ["notebook_states"]) (b_len : mg "len" = none) (Fn : L2.Fun K "mark" "Notebook.mark" st_Notebook_mark f fd) :
    FnOk P w K mg base (L2.CX P w) 1 f fd ["self"] (spG K (TNbLen C)) := by
  refine fn_ok Fn sc_Notebook_mark rfl (TNbLen_len C) ?_
  intro cdv A outer s H E N hr ds M Q X' h
  obtain ⟨a, k, dx, ss, rfl, hk, ho, q⟩ := h
  show WB _ _ _ [some _] _ _
  refine wb_one ?_
  walk_at "g"
  refine ⟨a, k, C, dx, _, _, rfl, hk, c.c, c.n _ (by simp), rfl, ?_⟩
  walk_at "g"
  rw [states_len]
  exact q
end
/-- nb.undo() -/
def TUndo (C CN : Addr) : TSp := fun ds M Q E => ∃ (a : Addr) (k : Nat) (dx : Addr) (ss : List Bk), ds = [.cel a] ∧ NbAt C M a k dx ss ∧ StOk ss ∧ (ss.length = 1 → E ⟨CN, []⟩ M) ∧ (ss.length ≠ 1 → Q .non (M.set k (a, Cell.ins C dx (NbF (ss.take (ss.length - 1))))))
theorem TUndo_mono (C CN : Addr) : Mono (TUndo C CN) := fun ds M Q Q' E E' h g ⟨a, k, dx, ss, h1, h2, h3, h4, h5⟩ => ⟨a, k, dx, ss, h1, h2, h3, fun x => g _ _ (h4 x), fun x => h _ _ (h5 x)⟩
theorem TUndo_len (C CN : Addr) : ∀ ds M Q E, TUndo C CN ds M Q E → ds.length = 1 := fun ds M Q E h => by obtain ⟨_, _, _, _, rfl, _⟩ := h; rfl
section
variable {P : Program} {w : World} {K : PySem.W.Frag} {mg : Str → Option Value} {base : Heap}
local macro_rules
  | `(tactic| walk_at "ok") => `(tactic| first
  | ((show BlkOk N_Notebook_undo (defScope st_Notebook_undo) _ _); exact blkOk_by (by decide +kernel)))
  | `(tactic| walk_at "eWECall") => `(tactic| first
  | ((with_reducible refine gC "len" ?_); refine we_len rfl (by assumption) ?_))
  | `(tactic| walk_at "eWE") => `(tactic| first
  | ((with_reducible show WE _ _ (Expr.Attribute _ "notebook_states" _) _ _ _); refine we_fld ?_))
  | `(tactic| walk_at "n") => `(tactic| first
  | ((with_reducible show WE _ _ (Expr.Name "NothingToUndo" _) _ _ _); refine we_glob (v := .ref _) rfl (by assumption) rfl (fun _ _ => .raw _) ?_))
  | `(tactic| walk_at "t") => `(tactic| first
  | ((with_reducible show WS _ _ (Stmt.Assign [Expr.Attribute _ "notebook_states" _] _ _) _ _ _); refine ws_fld ?_))
local macro_rules
  | `(tactic| walk_at "n") => `(tactic| first
  | ((with_reducible refine gN "self" ?_); refine we_nm 0 rfl rfl ?_))
  | `(tactic| walk_at "t") => `(tactic| first
  | ((with_reducible show WS _ _ (Stmt.Assign [Expr.Tuple _ _ _] _ _) _ _ _); refine ws_asg ?_))
theorem fn_nb_undo {f : Addr} {fd : FuncData} {C CN : Addr} (c : ObC K C ["notebook_states"]) (tl : ExcN K mg "NothingToUndo" CN) (b_len : mg "len" = none) (Fn : L2.Fun K "undo" "Notebook.undo" st_Notebook_undo f fd) :
    FnOk P w K mg base (L2.CX P w) 1 f fd ["self"] (spG K (TUndo C CN)) := by
  refine fn_ok Fn sc_Notebook_undo rfl (TUndo_len C CN) ?_
  intro cdv A outer s H E N hr ds M Q X' h
  obtain ⟨a, k, dx, ss, rfl, hk, ho, q1, q2⟩ := h
  have g1 := tl.g
  show WB _ _ _ [some _] _ _
  refine wb_cons ?_
  walk_at "g"
  refine ⟨a, k, C, dx, _, _, rfl, hk, c.c, c.n _ (by simp), rfl, ?_⟩
  walk_at "g"
  rw [states_len]
  refine iteD (fun h0 => ?_) (fun h0 => ?_)
  · refine wb_one (ws_raise N (wm_own PySem.F.excBase_ValueError tl.q tl.g tl.k (raises_own tl.b tl.t) rfl ?_))
    exact q1 (by omega)
  · walk_at "g"
    refine ⟨a, k, C, dx, _, _, rfl, hk, c.c, c.n _ (by simp), rfl, ?_⟩
    walk_at "g"
    rw [cutD_m1, states_len, ← List.map_take]
    refine ⟨a, k, C, dx, _, rfl, hk, c.c, c.n _ (by simp), (by show 1 < 1000; decide), ?_⟩
    walk_at "g"
    exact q2 (by omega)
end
/-- nb.undo_to(i) -/
def TUndoTo (C CI : Addr) : TSp := fun ds M Q E => ∃ (a : Addr) (k : Nat) (dx : Addr) (ss : List Bk) (i : Int), ds = [.cel a, .int i] ∧ NbAt C M a k dx ss ∧ StOk ss ∧ (¬ (0 ≤ i ∧ i < ss.length) → E ⟨CI, []⟩ M) ∧ (0 ≤ i → i < ss.length → Q .non (M.set k (a, Cell.ins C dx (NbF (ss.take (i.toNat + 1))))))
theorem TUndoTo_mono (C CI : Addr) : Mono (TUndoTo C CI) := fun ds M Q Q' E E' h g ⟨a, k, dx, ss, i, h1, h2, h3, h4, h5⟩ => ⟨a, k, dx, ss, i, h1, h2, h3, fun x => g _ _ (h4 x), fun x y => h _ _ (h5 x y)⟩
theorem TUndoTo_len (C CI : Addr) : ∀ ds M Q E, TUndoTo C CI ds M Q E → ds.length = 2 := fun ds M Q E h => by obtain ⟨_, _, _, _, _, rfl, _⟩ := h; rfl
section
variable {P : Program} {w : World} {K : PySem.W.Frag} {mg : Str → Option Value} {base : Heap}
local macro_rules
  | `(tactic| walk_at "ok") => `(tactic| first
  | ((show BlkOk N_Notebook_undo_to (defScope st_Notebook_undo_to) _ _); exact blkOk_by (by decide +kernel)))
  | `(tactic| walk_at "eWECall") => `(tactic| first
  | ((with_reducible refine gC "len" ?_); refine we_len rfl (by assumption) ?_))
  | `(tactic| walk_at "eWE") => `(tactic| first
  | ((with_reducible show WE _ _ (Expr.Attribute _ "notebook_states" _) _ _ _); refine we_fld ?_))
  | `(tactic| walk_at "n") => `(tactic| first
  | ((with_reducible show WE _ _ (Expr.Name "InvalidIndex" _) _ _ _); refine we_glob (v := .ref _) rfl (by assumption) rfl (fun _ _ => .raw _) ?_))
  | `(tactic| walk_at "t") => `(tactic| first
  | ((with_reducible show WS _ _ (Stmt.Assign [Expr.Attribute _ "notebook_states" _] _ _) _ _ _); refine ws_fld ?_))
local macro_rules
  | `(tactic| walk_at "n") => `(tactic| first
  | ((with_reducible refine gN "self" ?_); refine we_nm 0 rfl rfl ?_)
  | ((with_reducible refine gN "index" ?_); refine we_nm 1 rfl rfl ?_))
  | `(tactic| walk_at "t") => `(tactic| first
  | ((with_reducible show WS _ _ (Stmt.Assign [Expr.Tuple _ _ _] _ _) _ _ _); refine ws_asg ?_))
theorem fn_nb_undo_to {f : Addr} {fd : FuncData} {C CI : Addr} (c : ObC K C ["notebook_states"]) (tl : ExcN K mg "InvalidIndex" CI) (b_len : mg "len" = none) (Fn : L2.Fun K "undo_to" "Notebook.undo_to" st_Notebook_undo_to f fd) :
    FnOk P w K mg base (L2.CX P w) 1 f fd ["self", "index"] (spG K (TUndoTo C CI)) := by
  refine fn_ok Fn sc_Notebook_undo_to rfl (TUndoTo_len C CI) ?_
  intro cdv A outer s H E N hr ds M Q X' h
  obtain ⟨a, k, dx, ss, i, rfl, hk, ho, q1, q2⟩ := h
  have g1 := tl.g
  show WB _ _ _ [some _, some _] _ _
  refine wb_cons ?_
  walk_at "g"
  refine iteD (fun h0 => ?_) (fun h0 => ?_)
  · walk_at "g"
    refine ⟨a, k, C, dx, _, _, rfl, hk, c.c, c.n _ (by simp), rfl, ?_⟩
    walk_at "g"
    rw [states_len]
    refine iteN (fun h1 => ?_) (fun h1 => ?_)
    · refine wb_one (ws_raise N (wm_own PySem.F.excBase_ValueError tl.q tl.g tl.k (raises_own tl.b tl.t) rfl ?_))
      exact q1 (fun z => h1 z.2)
    · walk_at "g"
      refine ⟨a, k, C, dx, _, _, rfl, hk, c.c, c.n _ (by simp), rfl, ?_⟩
      walk_at "g"
      obtain ⟨n, rfl⟩ : ∃ n : Nat, i = n := ⟨i.toNat, by omega⟩
      rw [show (n : Int) + 1 = ((n + 1 : Nat) : Int) by omega, cutD_0, ← List.map_take]
      refine ⟨a, k, C, dx, _, rfl, hk, c.c, c.n _ (by simp), (by show 1 < 1000; decide), ?_⟩
      walk_at "g"
      exact q2 h0 h1
  · walk_at "g"
    refine ws_raise N (wm_own PySem.F.excBase_ValueError tl.q tl.g tl.k (raises_own tl.b tl.t) rfl ?_)
    exact q1 (fun z => h0 z.1)
end
/-- nb.forget(x) -/
def dropP (x : Int) (b : Bk) : Bk := b.filter fun y => !decide (y.1 = x)
def TForget (C CP : Addr) : TSp := fun ds M Q E => ∃ (a : Addr) (k : Nat) (dx : Addr) (ss : List Bk) (x : Int), ds = [.cel a, .int x] ∧ NbAt C M a k dx ss ∧ StOk ss ∧ ((dropP x (lastB ss)).length = (lastB ss).length → E ⟨CP, []⟩ M) ∧
  ((dropP x (lastB ss)).length ≠ (lastB ss).length → Q .non (M.set k (a, Cell.ins C dx (NbF (ss ++ [dropP x (lastB ss)])))))
theorem TForget_mono (C CP : Addr) : Mono (TForget C CP) := fun ds M Q Q' E E' h g ⟨a, k, dx, ss, i, h1, h2, h3, h4, h5⟩ => ⟨a, k, dx, ss, i, h1, h2, h3, fun x => g _ _ (h4 x), fun x => h _ _ (h5 x)⟩
theorem TForget_len (C CP : Addr) : ∀ ds M Q E, TForget C CP ds M Q E → ds.length = 2 := fun ds M Q E h => by obtain ⟨_, _, _, _, _, rfl, _⟩ := h; rfl
def kDrop (x : Int) : D → Bool
  | .tup [.int p, .int _] => !decide (p = x)
  | _ => true
theorem drop_D (x : Int) (b : Bk) : ((bookD b).filter (kDrop x)).map id = bookD (dropP x b) := by
  unfold bookD dropP
  rw [List.filter_map, List.map_id]
  rfl
section
variable {P : Program} {w : World} {K : PySem.W.Frag} {mg : Str → Option Value} {base : Heap}
local macro_rules
  | `(tactic| walk_at "ok") => `(tactic| first
  | ((show BlkOk N_Notebook_forget (defScope st_Notebook_forget) _ _); exact blkOk_by (by decide +kernel)))
  | `(tactic| walk_at "tS") => `(tactic| first
  | ((with_reducible refine gS "book" ?_); refine ws_st 2 ?_)
  | ((with_reducible refine gS "fewer" ?_); refine ws_st 3 ?_))
  | `(tactic| walk_at "tG") => `(tactic| first
  | ((with_reducible refine gG "item" ?_); refine wg_nm 4 ?_))
  | `(tactic| walk_at "eWECall") => `(tactic| first
  | ((with_reducible refine gC "len" ?_); refine we_len rfl (by assumption) ?_))
  | `(tactic| walk_at "eWE") => `(tactic| first
  | ((with_reducible show WE _ _ (Expr.Attribute _ "notebook_states" _) _ _ _); refine we_fld ?_))
  | `(tactic| walk_at "n") => `(tactic| first
  | ((with_reducible show WE _ _ (Expr.Name "InvalidPlace" _) _ _ _); refine we_glob (v := .ref _) rfl (by assumption) rfl (fun _ _ => .raw _) ?_))
  | `(tactic| walk_at "t") => `(tactic| first
  | ((with_reducible show WS _ _ (Stmt.Assign [Expr.Attribute _ "notebook_states" _] _ _) _ _ _); refine ws_fld ?_))
local macro_rules
  | `(tactic| walk_at "n") => `(tactic| first
  | ((with_reducible refine gN "self" ?_); refine we_nm 0 rfl rfl ?_)
  | ((with_reducible refine gN "book" ?_); refine we_nm 2 rfl rfl ?_)
  | ((with_reducible refine gN "fewer" ?_); refine we_nm 3 rfl rfl ?_)
  | ((with_reducible refine gN "item" ?_); refine we_nm 4 rfl rfl ?_)
  | ((with_reducible refine gN "place" ?_); refine we_nm 1 rfl rfl ?_))
  | `(tactic| walk_at "t") => `(tactic| first
  | ((with_reducible show WS _ _ (Stmt.Assign [Expr.Name _ _] _ _) _ _ _); walk_at "tS")
  | ((with_reducible show WG _ _ (Expr.Name _ _) _ _ _ _); walk_at "tG")
  | ((with_reducible show WS _ _ (Stmt.Assign [Expr.Tuple _ _ _] _ _) _ _ _); refine ws_asg ?_))
  | `(tactic| walk_at "tg") => `(tactic| first
  | exact Tg.one (i := 4) rfl rfl)
theorem fn_nb_forget {f : Addr} {fd : FuncData} {C CP : Addr} (c : ObC K C ["notebook_states"]) (tl : ExcN K mg "InvalidPlace" CP) (b_len : mg "len" = none) (Fn : L2.Fun K "forget" "Notebook.forget" st_Notebook_forget f fd) :
    FnOk P w K mg base (L2.CX P w) 1 f fd ["self", "place"] (spG K (TForget C CP)) := by
  refine fn_ok Fn sc_Notebook_forget rfl (TForget_len C CP) ?_
  intro cdv A outer s H E N hr ds M Q X' h
  obtain ⟨a, k, dx, ss, x, rfl, hk, ho, q1, q2⟩ := h
  have g1 := tl.g
  show WB _ _ _ [some _, some _, none, none, none] _ _
  refine wb_cons ?_
  walk_at "g"
  refine ⟨a, k, C, dx, _, _, rfl, hk, c.c, c.n _ (by simp), rfl, ?_⟩
  walk_at "g"
  refine ⟨_, states_last ho.ne, ?_⟩
  walk_at "g"
  refine ws_setLC (i := 3) N rfl rfl (lc_froz 0 (lc_lcF (kDrop x) id N (by walk_at "tg") (by walk_at "ok") (wi_list ?_)))
  walk_at "g"
  have hl := ho.last
  refine ⟨_, .l, by rw [bookD_len, sizeLine_eq]; omega, fun _ _ => .l, ?_, ?_⟩
  · intro i d' acc p hd
    obtain ⟨y, hy, rfl⟩ := List.mem_map.mp (List.mem_of_getElem? hd)
    refine ⟨_, rfl, fun B => ?_⟩
    walk_at "g"
    show RIx (.tup [.int y.1, .int y.2]) _ _ _
    walk_at "g"
    refine ⟨rfl, rfl, fun _ B => ?_⟩
    walk_at "g"
    exact ⟨rfl, rfl⟩
  intro p
  refine ⟨p, _, rfl, rfl, ?_⟩
  rw [drop_D]
  walk_at "g"
  rw [bookD_len, bookD_len]
  refine iteD (fun h0 => ?_) (fun h0 => ?_)
  · refine wb_one (ws_raise N (wm_own PySem.F.excBase_ValueError tl.q tl.g tl.k (raises_own tl.b tl.t) rfl ?_))
    exact q1 (by omega)
  · walk_at "g"
    refine we_lstStr ?_
    walk_at "g"
    refine ⟨a, k, C, dx, _, _, rfl, hk, c.c, c.n _ (by simp), rfl, ?_⟩
    refine ⟨_, .l, ?_⟩
    walk_at "g"
    refine ⟨by rw [states_len, sizeLine_eq]; have := ho.few; omega, ?_⟩
    walk_at "g"
    refine ⟨a, k, C, dx, _, rfl, hk, c.c, c.n _ (by simp), (by show 1 < 1000; decide), ?_⟩
    rw [states_snoc]
    walk_at "g"
    exact q2 (by omega)
end
/-! NbC -/
theorem inV_ints (x : Int) : ∀ ns : List Int, inV (.int x) (ns.map V.int) = decide (x ∈ ns) := fun ns => by
  induction ns with
  | nil => rfl
  | cons n ns ih =>
    show (eqV (.int n) (.int x) || inV (.int x) (ns.map V.int)) = _
    rw [ih]
    show (decide (n = x) || decide (x ∈ ns)) = _
    rw [Bool.eq_iff_iff, Bool.or_eq_true, decide_eq_true_iff, decide_eq_true_iff, decide_eq_true_iff, List.mem_cons]
    exact ⟨fun h => h.imp Eq.symm id, fun h => h.imp Eq.symm id⟩
theorem rin_ints {M : Cells} {e : D} {x : Int} {ns : List Int} {neg : Bool} {Q : D → Cells → Prop} (h : LV M e (ns.map D.int)) (q : Q (.bl (if neg then !decide (x ∈ ns) else decide (x ∈ ns))) M) : RIn neg (.int x) e M Q := by
  refine .inl ⟨.int x, ns.map V.int, rfl, .inl (by rw [List.map_map]; exact h), rfl, ?_, by rw [inV_ints]; exact q⟩
  rw [List.all_eq_true]
  intro y hy
  obtain ⟨z, _, rfl⟩ := List.mem_map.mp hy
  rfl
/-- the places of the told values that do not fit -/
def unfitL (b : Bk) (it : Int × Int) : List Int := (b.filter fun y => !decide (Fit y it)).map Prod.fst
def fPl : D → D
  | .tup [.int p, .int _] => .int p
  | _ => .non
def kUnf (it : Int × Int) : D → Bool
  | .tup [.int p, .int v] => !decide (Fit (p, v) it)
  | _ => false
theorem pl_D (b : Bk) : (bookD b).map fPl = (b.map Prod.fst).map D.int := by
  unfold bookD
  rw [List.map_map, List.map_map]
  rfl
theorem unf_D (b : Bk) (it : Int × Int) : ((bookD b).filter (kUnf it)).map fPl = (unfitL b it).map D.int := by
  unfold bookD unfitL
  rw [List.filter_map, List.map_map, List.map_map]
  rfl
def placeE (C : Addr) (x : Int) : Ex := ⟨C, [("place", .int x)]⟩
def TTell (C CR CL : Addr) : TSp := fun ds M Q E => ∃ (a : Addr) (k : Nat) (dx : Addr) (ss : List Bk) (x v : Int), ds = [.cel a, .int x, .int v] ∧ NbAt C M a k dx ss ∧ StOk ss ∧
  ((x, v) ∈ lastB ss → Q .non M) ∧ ((x, v) ∉ lastB ss → x ∈ (lastB ss).map Prod.fst → E (placeE CR x) M) ∧
  (x ∉ (lastB ss).map Prod.fst → ∀ p r, unfitL (lastB ss) (x, v) = p :: r → E (placeE CR p) M) ∧
  (x ∉ (lastB ss).map Prod.fst → unfitL (lastB ss) (x, v) = [] → (lastB ss).length = 24 → E ⟨CL, []⟩ M) ∧
  (x ∉ (lastB ss).map Prod.fst → unfitL (lastB ss) (x, v) = [] → (lastB ss).length ≠ 24 → ∀ b : Bk, b.Perm (lastB ss ++ [(x, v)]) → b.Pairwise LexLe → Q .non (M.set k (a, Cell.ins C dx (NbF (ss ++ [b])))))
theorem TTell_mono (C CR CL : Addr) : Mono (TTell C CR CL) := fun ds M Q Q' E E' h g ⟨a, k, dx, ss, x, v, h1, h2, h3, h4, h5, h6, h7, h8⟩ =>
  ⟨a, k, dx, ss, x, v, h1, h2, h3, fun z => h _ _ (h4 z), fun y z => g _ _ (h5 y z), fun y p r z => g _ _ (h6 y p r z), fun y z u => g _ _ (h7 y z u), fun y z u b p q => h _ _ (h8 y z u b p q)⟩
theorem TTell_len (C CR CL : Addr) : ∀ ds M Q E, TTell C CR CL ds M Q E → ds.length = 3 := fun ds M Q E h => by obtain ⟨_, _, _, _, _, _, rfl, _⟩ := h; rfl
section
variable {P : Program} {w : World} {K : PySem.W.Frag} {mg : Str → Option Value} {base : Heap}
local macro_rules
  | `(tactic| walk_at "ok") => `(tactic| first
  | ((show BlkOk N_Notebook_tell (defScope st_Notebook_tell) _ _); exact blkOk_by (by decide +kernel)))
  | `(tactic| walk_at "tS") => `(tactic| first
  | ((with_reducible refine gS "book" ?_); refine ws_st 3 ?_)
  | ((with_reducible refine gS "unfit" ?_); refine ws_st 4 ?_))
  | `(tactic| walk_at "tG") => `(tactic| first
  | ((with_reducible refine gG "told" ?_); refine wg_nm 5 ?_)
  | ((with_reducible refine gG "own" ?_); refine wg_nm 6 ?_))
  | `(tactic| walk_at "eWECall") => `(tactic| first
  | ((with_reducible refine gC "len" ?_); refine we_len rfl (by assumption) ?_)
  | ((with_reducible show WE _ _ (Expr.Call (Expr.Name _ _) _ _ _) _ _ _); walk_at "c"))
  | `(tactic| walk_at "eWE") => `(tactic| first
  | ((with_reducible show WE _ _ (Expr.Attribute _ "notebook_states" _) _ _ _); refine we_fld ?_))
  | `(tactic| walk_at "n") => `(tactic| first
  | ((with_reducible show WE _ _ (Expr.Name "Refused" _) _ _ _); refine we_glob (v := .ref _) rfl (by assumption) rfl (fun _ _ => .raw _) ?_)
  | ((with_reducible show WE _ _ (Expr.Name "TooLarge" _) _ _ _); refine we_glob (v := .ref _) rfl (by assumption) rfl (fun _ _ => .raw _) ?_))
  | `(tactic| walk_at "t") => `(tactic| first
  | ((with_reducible show WS _ _ (Stmt.Assign [Expr.Attribute _ "notebook_states" _] _ _) _ _ _); refine ws_fld ?_))
local macro_rules
  | `(tactic| walk_at "n") => `(tactic| first
  | ((with_reducible refine gN "place" ?_); refine we_nm 1 rfl rfl ?_)
  | ((with_reducible refine gN "book" ?_); refine we_nm 3 rfl rfl ?_)
  | ((with_reducible refine gN "self" ?_); refine we_nm 0 rfl rfl ?_)
  | ((with_reducible refine gN "value" ?_); refine we_nm 2 rfl rfl ?_)
  | ((with_reducible refine gN "told" ?_); refine we_nm 5 rfl rfl ?_)
  | ((with_reducible refine gN "unfit" ?_); refine we_nm 4 rfl rfl ?_)
  | ((with_reducible refine gN "own" ?_); refine we_nm 6 rfl rfl ?_)
  | ((with_reducible show WE _ _ (Expr.Name "MOST_ITEMS" _) _ _ _); refine we_globI rfl (by assumption) ?_))
  | `(tactic| walk_at "t") => `(tactic| first
  | ((with_reducible show WS _ _ (Stmt.Assign [Expr.Name _ _] _ _) _ _ _); walk_at "tS")
  | ((with_reducible show WG _ _ (Expr.Name _ _) _ _ _ _); walk_at "tG")
  | ((with_reducible show WS _ _ (Stmt.Assign [Expr.Tuple _ _ _] _ _) _ _ _); refine ws_asg ?_))
  | `(tactic| walk_at "c") => `(tactic| first
  | ((with_reducible refine gCK "do_fit" ?_); refine we_cl "do_fit" ?_))
  | `(tactic| walk_at "tg") => `(tactic| first
  | exact Tg.two (i := 5) (j := 6) rfl rfl (by decide) rfl rfl)
  | `(tactic| walk_at "eWTCompare") => `(tactic| ((with_reducible show WT _ _ (Expr.Compare (Expr.Tuple _ _ _) [CmpOp.In] _ _) _ _ _); refine wt_inD (Room.u65 (by assumption)) ?_))
theorem fn_nb_tell {f fR : Addr} {fd fdR : FuncData} {C CR CL : Addr} (c : ObC K C ["notebook_states"]) (rf : ExcI K mg "Refused" CR fR ["place"]) (Fi : FnOk P w K mg base (L2.CX P w) 1 fR fdR ["self", "place"] (spIni1 CR "place")) (hbi : Binds K fdR ["self", "place"] []) (tl : ExcN K mg "TooLarge" CL)
    (b_len : mg "len" = none) (b_sorted : mg "sorted" = none) (c1 : ∃ t, mg "MOST_ITEMS" = some (.int 24 t)) (d_fit : FD P w K mg base 2 "do_fit" 2 TFit) (Fn : L2.Fun K "tell" "Notebook.tell" st_Notebook_tell f fd) :
    FnOk P w K mg base (L2.CX P w) 3 f fd ["self", "place", "value"] (spG K (TTell C CR CL)) := by
  refine fn_ok Fn sc_Notebook_tell rfl (TTell_len C CR CL) ?_
  intro cdv A outer s H E N hr ds M Q X' h
  obtain ⟨a, k, dx, ss, x, v, rfl, hk, ho, q1, q2, q3, q4, q5⟩ := h
  have g1 := tl.g
  have g2 := rf.g
  have hl := ho.last
  have hl2 : (bookD (lastB ss)).length ≤ sizeLine := by rw [bookD_len, sizeLine_eq]; omega
  show WB _ _ _ [some _, some _, some _, none, none, none, none] _ _
  refine wb_cons ?_
  walk_at "g"
  refine ⟨a, k, C, dx, _, _, rfl, hk, c.c, c.n _ (by simp), rfl, ?_⟩
  walk_at "g"
  refine ⟨_, states_last ho.ne, ?_⟩
  walk_at "g"
  refine ⟨py (.tup [.int x, .int v]), pys (bookD (lastB ss)), .inl ⟨by rfl, rfl⟩, .fz (okDs_book _), by rfl, shaped_book _, ?_⟩
  rw [any_pairs]
  refine ⟨_, rfl, iteD (fun h0 => ?_) (fun h0 => ?_)⟩
  · walk_at "g"
    exact q1 h0
  walk_at "g"
  refine we_froz 0 (we_lcM fPl N (by walk_at "tg") (by walk_at "ok") (wi_list ?_))
  walk_at "g"
  refine ⟨_, .l, hl2, fun _ _ => .l, ?_, ?_⟩
  · intro i2 d' acc p2 hd2
    obtain ⟨y, hy, rfl⟩ := List.mem_map.mp (List.mem_of_getElem? hd2)
    refine ⟨_, ⟨_, _, rfl, rfl⟩, fun B => ?_⟩
    walk_at "g"
    exact ⟨rfl, rfl⟩
  intro p3
  refine ⟨p3, _, rfl, rfl, ?_⟩
  rw [pl_D]
  refine rin_ints .l ?_
  refine ⟨_, rfl, iteD (fun h1 => ?_) (fun h1 => ?_)⟩
  · refine wb_one (ws_raise N (wm_ini1 rf Fi hbi (room_le hr (by decide)) rfl ?_))
    walk_at "g"
    exact q2 h0 h1
  walk_at "g"
  refine ws_setLC (i := 4) N rfl rfl (lc_froz 0 (lc_lcF (kUnf (x, v)) fPl N (by walk_at "tg") (by walk_at "ok") (wi_list ?_)))
  walk_at "g"
  refine ⟨_, .l, hl2, fun _ _ => .l, ?_, ?_⟩
  · intro i2 d' acc p2 hd2
    obtain ⟨y, hy, rfl⟩ := List.mem_map.mp (List.mem_of_getElem? hd2)
    refine ⟨_, ⟨_, _, rfl, rfl⟩, fun B => ?_⟩
    walk_at "g"
    refine ⟨(y.1, y.2), (x, v), rfl, _, rfl, rfl, rfl, fun _ B => ?_⟩
    walk_at "g"
    exact ⟨rfl, rfl⟩
  intro p4
  refine ⟨p4, _, rfl, rfl, ?_⟩
  rw [unf_D]
  walk_at "g"
  refine req_intsN (xs := unfitL (lastB ss) (x, v)) (ys := []) .l .l ?_
  cases hU : unfitL (lastB ss) (x, v) with
  | cons p r =>
    rw [decide_eq_false (fun e => nomatch e)]
    refine ⟨_, rfl, iteP rfl ?_⟩
    refine wb_one (ws_raise N (wm_ini1 rf Fi hbi (room_le hr (by decide)) rfl ?_))
    walk_at "g"
    refine ⟨_, atI_nat (j := 0) rfl, ?_⟩
    walk_at "g"
    exact q3 h1 p r hU
  | nil =>
    rw [decide_eq_true rfl]
    refine ⟨_, rfl, iteQ rfl ?_⟩
    walk_at "g"
    rw [bookD_len]
    refine iteD (fun h2 => ?_) (fun h2 => ?_)
    · refine wb_one (ws_raise N (wm_own PySem.F.excBase_ValueError tl.q tl.g tl.k (raises_own tl.b tl.t) rfl ?_))
      exact q4 h1 hU (by omega)
    walk_at "g"
    refine we_lstStr ?_
    walk_at "g"
    refine ⟨a, k, C, dx, _, _, rfl, hk, c.c, c.n _ (by simp), rfl, ?_⟩
    refine ⟨_, .l, ?_⟩
    refine we_sortedP rfl (by assumption) ?_
    refine we_lstStr ?_
    walk_at "g"
    refine ⟨_, .l, ?_⟩
    walk_at "g"
    have e : bookD (lastB ss) ++ [D.tup [.int x, .int v]] = (lastB ss ++ [(x, v)]).map pD := by unfold bookD; rw [List.map_append]; rfl
    refine ⟨by rw [bookD_len, sizeLine_eq]; omega, lastB ss ++ [(x, v)], .inl (congrArg D.lst e), fun b' hp hs => ?_⟩
    refine ⟨by rw [states_len, sizeLine_eq]; have := ho.few; omega, ?_⟩
    walk_at "g"
    refine ⟨a, k, C, dx, _, rfl, hk, c.c, c.n _ (by simp), (by show 1 < 1000; decide), ?_⟩
    have e2 : D.lst (b'.map pD) = D.lst (bookD b') := rfl
    rw [e2, states_snoc]
    walk_at "g"
    exact q5 h1 hU (by omega) b' hp hs
end
/-! NbD -/
section
variable {P : Program} {w : World} {K : PySem.W.Frag} {mg : Str → Option Value} {base : Heap}
local macro_rules
  | `(tactic| walk_at "ok") => `(tactic| first
  | ((show BlkOk N_Refused___init__ (defScope st_Refused___init__) _ _); exact blkOk_by (by decide +kernel)))
  | `(tactic| walk_at "n") => `(tactic| first
  | ((with_reducible show WE _ _ (Expr.Name "RestError" _) _ _ _); refine we_glob (v := .ref _) rfl (by assumption) rfl (fun _ _ => .raw _) ?_))
  | `(tactic| walk_at "t") => `(tactic| first
  | ((with_reducible show WS _ _ (Stmt.Assign [Expr.Attribute _ "place" _] _ _) _ _ _); refine ws_fld ?_))
local macro_rules
  | `(tactic| walk_at "n") => `(tactic| first
  | ((with_reducible refine gN "self" ?_); refine we_nm 0 rfl rfl ?_)
  | ((with_reducible refine gN "place" ?_); refine we_nm 1 rfl rfl ?_))
  | `(tactic| walk_at "t") => `(tactic| first
  | ((with_reducible show WS _ _ (Stmt.Assign [Expr.Tuple _ _ _] _ _) _ _ _); refine ws_asg ?_))
theorem fn_refused_init {f : Addr} {fd : FuncData} {C C0 : Addr} {mc : Value} (c : ExcI K mg "Refused" C f ["place"]) (b : BasI K mg "RestError" C0 mc) (Fn : L2.Fun K "__init__" "Refused.__init__" st_Refused___init__ f fd) :
    FnOk P w K mg base (L2.CX P w) 1 f fd ["self", "place"] (spIni1 C "place") := by
  refine Fn.okX sc_Refused___init__ (fun vs H Q E ⟨a, v1, e, _⟩ => by rw [e]; rfl) fun cdv A outer s H vs Q E hr h => ?_
  obtain ⟨a, v1, rfl, ha, q⟩ := h
  refine ⟨_, pss_cons (ps_expr (pe_base_init rfl b.g b.a b.r b.v (pa_cons (pv 0) (pa_cons pe_str pa_nil)))) (pss_one (ps_ost (pv 0) (pv 1))), ?_⟩
  refine ⟨_, rfl, a, C, _, rfl, by simp, c.T, ha, ?_⟩
  exact ⟨_, rfl, _, rfl, a, C, rfl, c.T, c.no _ (by simp), .inl ⟨ha, fun dx hdx hne => q dx hdx hne⟩⟩
end
/-- classes that are no one another's, and their base -/
structure KitTab (K : PySem.W.Frag) (Cs : List Addr) (B : Addr) : Prop where
  kit : ∀ (i j : Nat) (A D : Addr), Cs[i]? = some A → Cs[j]? = some D → PySem.W.kitOne K (.ref A) (.ref D) = some (decide (i = j))
  ex : ∀ A ∈ Cs, ExcC K A
  base : ∀ A ∈ Cs, PySem.W.exmOne K (.ref A) (.ref B) = some true
/-- an error's number among some classes -/
def EAsk (Cs : List Addr) (Q : D → Cells → Prop) : Ex → Cells → Prop := fun y M' => ∃ i : Nat, Cs[i]? = some y.cls ∧ (y.fs = [] ∨ ∃ fs : List (Str × Int), y.fs = fsD fs ∧ fs ≠ []) ∧ Q (.int i) M'
def TAsk (C CR CL CP CI CN : Addr) : TSp := fun ds M Q E => ∃ (way : Nat) (a : Addr) (x v : Int), ds = [.int way, .cel a, .int x, .int v] ∧
  ((way = 0 ∧ TTell C CR CL [.cel a, .int x, .int v] M (fun _ => Q .non) (EAsk [CR, CL, CP, CI, CN] Q)) ∨ (way = 1 ∧ TForget C CP [.cel a, .int x] M (fun _ => Q .non) (EAsk [CR, CL, CP, CI, CN] Q)) ∨
    (way = 2 ∧ TUndoTo C CI [.cel a, .int x] M (fun _ => Q .non) (EAsk [CR, CL, CP, CI, CN] Q)) ∨ (way = 3 ∧ TUndo C CN [.cel a] M (fun _ => Q .non) (EAsk [CR, CL, CP, CI, CN] Q)))
theorem EAsk.imp {Cs : List Addr} {Q Q' : D → Cells → Prop} (h : ∀ d M', Q d M' → Q' d M') : ∀ x M', EAsk Cs Q x M' → EAsk Cs Q' x M' := fun x M' ⟨i, a, b, c⟩ => ⟨i, a, b, h _ _ c⟩
theorem TAsk_mono (C CR CL CP CI CN : Addr) : Mono (TAsk C CR CL CP CI CN) := fun ds M Q Q' E E' h _ ⟨way, a, x, v, h1, h2⟩ => ⟨way, a, x, v, h1, by
  rcases h2 with ⟨e, t⟩ | ⟨e, t⟩ | ⟨e, t⟩ | ⟨e, t⟩
  · exact .inl ⟨e, TTell_mono _ _ _ _ _ _ _ _ _ (fun d M' => h .non M') (EAsk.imp h) t⟩
  · exact .inr (.inl ⟨e, TForget_mono _ _ _ _ _ _ _ _ (fun d M' => h .non M') (EAsk.imp h) t⟩)
  · exact .inr (.inr (.inl ⟨e, TUndoTo_mono _ _ _ _ _ _ _ _ (fun d M' => h .non M') (EAsk.imp h) t⟩))
  · exact .inr (.inr (.inr ⟨e, TUndo_mono _ _ _ _ _ _ _ _ (fun d M' => h .non M') (EAsk.imp h) t⟩))⟩
theorem TAsk_len (C CR CL CP CI CN : Addr) : ∀ ds M Q E, TAsk C CR CL CP CI CN ds M Q E → ds.length = 4 := fun ds M Q E h => by obtain ⟨_, _, _, _, rfl, _⟩ := h; rfl
theorem NbAt.of_tell {C CR CL a : Addr} {ds : List D} {M : Cells} {Q : D → Cells → Prop} {E : Ex → Cells → Prop} (h : TTell C CR CL (.cel a :: ds) M Q E) : ∃ (k : Nat) (dx : Addr) (ss : List Bk), NbAt C M a k dx ss := by
  obtain ⟨a', k, dx, ss, x, v, e, h, _⟩ := h
  cases e
  exact ⟨k, dx, ss, h⟩
theorem NbAt.of_forget {C CP a : Addr} {ds : List D} {M : Cells} {Q : D → Cells → Prop} {E : Ex → Cells → Prop} (h : TForget C CP (.cel a :: ds) M Q E) : ∃ (k : Nat) (dx : Addr) (ss : List Bk), NbAt C M a k dx ss := by
  obtain ⟨a', k, dx, ss, x, e, h, _⟩ := h
  cases e
  exact ⟨k, dx, ss, h⟩
theorem NbAt.of_undo_to {C CI a : Addr} {ds : List D} {M : Cells} {Q : D → Cells → Prop} {E : Ex → Cells → Prop} (h : TUndoTo C CI (.cel a :: ds) M Q E) : ∃ (k : Nat) (dx : Addr) (ss : List Bk), NbAt C M a k dx ss := by
  obtain ⟨a', k, dx, ss, x, e, h, _⟩ := h
  cases e
  exact ⟨k, dx, ss, h⟩
theorem NbAt.of_undo {C CN a : Addr} {ds : List D} {M : Cells} {Q : D → Cells → Prop} {E : Ex → Cells → Prop} (h : TUndo C CN (.cel a :: ds) M Q E) : ∃ (k : Nat) (dx : Addr) (ss : List Bk), NbAt C M a k dx ss := by
  obtain ⟨a', k, dx, ss, e, h, _⟩ := h
  cases e
  exact ⟨k, dx, ss, h⟩
section
variable {P : Program} {w : World} {K : PySem.W.Frag} {mg : Str → Option Value} {base : Heap}
local macro_rules
  | `(tactic| walk_at "ok") => `(tactic| first
  | ((show BlkOk N_l_asked (defScope st_l_asked) _ _); exact blkOk_by (by decide +kernel)))
  | `(tactic| walk_at "tS") => `(tactic| first
  | ((with_reducible refine gS "_law_shown" ?_); refine ws_st 5 ?_))
  | `(tactic| walk_at "eWECall") => `(tactic| first
  | ((with_reducible refine gC "isinstance" ?_); refine we_isi rfl (by assumption) ?_))
local macro_rules
  | `(tactic| walk_at "eWECall") => `(tactic| first
  | ((with_reducible show WE _ _ (Expr.Call (Expr.Attribute _ "tell" _) [_, _] [] _) _ _ _); refine we_meth (m := "tell") (by assumption) (by walk_at "r") ?_)
  | ((with_reducible show WE _ _ (Expr.Call (Expr.Attribute _ "forget" _) [_] [] _) _ _ _); refine we_meth (m := "forget") (by assumption) (by walk_at "r") ?_)
  | ((with_reducible show WE _ _ (Expr.Call (Expr.Attribute _ "undo_to" _) [_] [] _) _ _ _); refine we_meth (m := "undo_to") (by assumption) (by walk_at "r") ?_)
  | ((with_reducible show WE _ _ (Expr.Call (Expr.Attribute _ "undo" _) [] [] _) _ _ _); refine we_meth0 (m := "undo") (by assumption) (by walk_at "r") ?_))
  | `(tactic| walk_at "n") => `(tactic| first
  | ((with_reducible show WE _ _ (Expr.Name "RestError" _) _ _ _); refine we_glob (v := .ref _) rfl (by assumption) rfl (fun _ _ => .raw _) ?_)
  | ((with_reducible show WE _ _ (Expr.Name "Refused" _) _ _ _); refine we_glob (v := .ref _) rfl (by assumption) rfl (fun _ _ => .raw _) ?_)
  | ((with_reducible show WE _ _ (Expr.Name "TooLarge" _) _ _ _); refine we_glob (v := .ref _) rfl (by assumption) rfl (fun _ _ => .raw _) ?_)
  | ((with_reducible show WE _ _ (Expr.Name "InvalidPlace" _) _ _ _); refine we_glob (v := .ref _) rfl (by assumption) rfl (fun _ _ => .raw _) ?_)
  | ((with_reducible show WE _ _ (Expr.Name "InvalidIndex" _) _ _ _); refine we_glob (v := .ref _) rfl (by assumption) rfl (fun _ _ => .raw _) ?_)
  | ((with_reducible show WE _ _ (Expr.Name "NothingToUndo" _) _ _ _); refine we_glob (v := .ref _) rfl (by assumption) rfl (fun _ _ => .raw _) ?_))
local macro_rules
  | `(tactic| walk_at "n") => `(tactic| first
  | ((with_reducible refine gN "e" ?_); refine we_nm 4 rfl rfl ?_)
  | ((with_reducible refine gN "_law_notebook" ?_); refine we_nm 1 rfl rfl ?_)
  | ((with_reducible refine gN "_law_way" ?_); refine we_nm 0 rfl rfl ?_)
  | ((with_reducible refine gN "_law_a" ?_); refine we_nm 2 rfl rfl ?_)
  | ((with_reducible refine gN "_law_b" ?_); refine we_nm 3 rfl rfl ?_)
  | ((with_reducible refine gN "_law_shown" ?_); refine we_nm 5 rfl rfl ?_))
  | `(tactic| walk_at "t") => `(tactic| first
  | ((with_reducible show WS _ _ (Stmt.Assign [Expr.Name _ _] _ _) _ _ _); walk_at "tS")
  | ((with_reducible show WS _ _ (Stmt.Assign [Expr.Tuple _ _ _] _ _) _ _ _); refine ws_asg ?_))
theorem fn_asked {f B : Addr} {fd : FuncData} {C CR CL CP CI CN : Addr} (b_isi : mg "isinstance" = none) (gB : mg "RestError" = some (.ref B)) (gR : mg "Refused" = some (.ref CR)) (gL : mg "TooLarge" = some (.ref CL)) (gP : mg "InvalidPlace" = some (.ref CP)) (gI : mg "InvalidIndex" = some (.ref CI)) (gN : mg "NothingToUndo" = some (.ref CN))
    (kt : KitTab K [CR, CL, CP, CI, CN] B) (d_tell : FM P w K mg base 3 C "tell" 3 (TTell C CR CL)) (d_forget : FM P w K mg base 1 C "forget" 2 (TForget C CP)) (d_undo_to : FM P w K mg base 1 C "undo_to" 2 (TUndoTo C CI)) (d_undo : FM P w K mg base 1 C "undo" 1 (TUndo C CN))
    (Fn : L2.Fun K "_law_asked" "_law_asked" st_l_asked f fd) :
    FnOk P w K mg base (L2.CX P w) 4 f fd ["_law_way", "_law_notebook", "_law_a", "_law_b"] (spG K (TAsk C CR CL CP CI CN)) := by
  refine fn_ok Fn sc_l_asked rfl (TAsk_len C CR CL CP CI CN) ?_
  intro cdv A outer s H E N hr ds M Q X' h
  obtain ⟨way, a, x, v, rfl, q⟩ := h
  show WB _ _ _ [some (.int way), some (.cel a), some (.int x), some (.int v), none, none] _ _
  refine wb_cons ?_
  refine ws_tryAny (i := 4) (fun ex δ' M' => δ' = [some (.int way), some (.cel a), some (.int x), some (.int v), none, none] ∧ EAsk [CR, CL, CP, CI, CN] Q ex M') N rfl rfl rfl rfl ⟨rfl, by decide, .inl gB⟩ (fun pn xe N' => ?_) ?_
  · rcases q with ⟨rfl, q⟩ | ⟨rfl, q⟩ | ⟨rfl, q⟩ | ⟨rfl, q⟩
    · obtain ⟨k, dx, ss, hk⟩ := NbAt.of_tell q
      walk_at "g"
      refine ⟨a, k, dx, NbF ss, rfl, hk, rfl, ?_⟩
      walk_at "g"
      refine TTell_mono _ _ _ _ _ _ _ _ _ (fun d M' z => ?_) (fun y M' z => ⟨rfl, z⟩) q
      walk_at "g"
      exact z
    · obtain ⟨k, dx, ss, hk⟩ := NbAt.of_forget q
      walk_at "g"
      refine ⟨a, k, dx, NbF ss, rfl, hk, rfl, ?_⟩
      walk_at "g"
      refine TForget_mono _ _ _ _ _ _ _ _ (fun d M' z => ?_) (fun y M' z => ⟨rfl, z⟩) q
      walk_at "g"
      exact z
    · obtain ⟨k, dx, ss, hk⟩ := NbAt.of_undo_to q
      walk_at "g"
      refine ⟨a, k, dx, NbF ss, rfl, hk, rfl, ?_⟩
      walk_at "g"
      refine TUndoTo_mono _ _ _ _ _ _ _ _ (fun d M' z => ?_) (fun y M' z => ⟨rfl, z⟩) q
      walk_at "g"
      exact z
    · obtain ⟨k, dx, ss, hk⟩ := NbAt.of_undo q
      walk_at "g"
      refine ⟨a, k, dx, NbF ss, rfl, hk, rfl, ?_⟩
      walk_at "g"
      refine TUndo_mono _ _ _ _ _ _ _ _ (fun d M' z => ?_) (fun y M' z => ⟨rfl, z⟩) q
      walk_at "g"
      exact z
  · rintro ex δ' M' ⟨rfl, i, hi, hfs, q⟩
    refine ⟨true, kt.base _ (List.mem_of_getElem? hi), fun _ => ⟨hfs, fun a' od oe pn d hd hz hf => ?_⟩, fun z => (by cases z)⟩
    have hi5 : i < 5 := (List.getElem?_eq_some_iff.mp hi).1
    have hX := kt.ex _ (List.mem_of_getElem? hi)
    refine wb_cons (ws_setS (i := 5) N.nd rfl (.inl rfl) ?_)
    refine we_lst ?_
    refine wa_cons (we_isX hX hz hf rfl (by assumption) (by decide +kernel) ?_)
    walk_at "g"
    refine ⟨_, _, _, rfl, hd, kt.kit i 0 _ _ hi rfl, ?_⟩
    refine wa_cons (we_isX hX hz hf rfl (by assumption) (by decide +kernel) ?_)
    walk_at "g"
    refine ⟨_, _, _, rfl, hd, kt.kit i 1 _ _ hi rfl, ?_⟩
    refine wa_cons (we_isX hX hz hf rfl (by assumption) (by decide +kernel) ?_)
    walk_at "g"
    refine ⟨_, _, _, rfl, hd, kt.kit i 2 _ _ hi rfl, ?_⟩
    walk_at "g"
    refine we_indexB ?_
    walk_at "g"
    refine we_lst ?_
    refine wa_cons (we_isX hX hz hf rfl (by assumption) (by decide +kernel) ?_)
    walk_at "g"
    refine ⟨_, _, _, rfl, hd, kt.kit i 3 _ _ hi rfl, ?_⟩
    refine wa_cons (we_isX hX hz hf rfl (by assumption) (by decide +kernel) ?_)
    walk_at "g"
    refine ⟨_, _, _, rfl, hd, kt.kit i 4 _ _ hi rfl, ?_⟩
    walk_at "g"
    refine .inr (.inr ⟨_, _, .l, .l, by show 6 ≤ sizeLine; decide, ?_⟩)
    refine ⟨⟨_, .l⟩, ?_⟩
    walk_at "g"
    refine ⟨[decide (i = 0), decide (i = 1), decide (i = 2), decide (i = 3), decide (i = 4), true], i, rfl, .l, ?_, ?_, ?_⟩
    · rcases (show i = 0 ∨ i = 1 ∨ i = 2 ∨ i = 3 ∨ i = 4 by omega) with rfl | rfl | rfl | rfl | rfl <;> rfl
    · rcases (show i = 0 ∨ i = 1 ∨ i = 2 ∨ i = 3 ∨ i = 4 by omega) with rfl | rfl | rfl | rfl | rfl <;> decide
    · exact q
end
/-! NbE -/
structure Lin (m c : Int) (xs : List Int) (b : Bk) : Prop where
  p : b.Perm (xs.map fun x => (x, m * x + c))
  nd : xs.Nodup
section
variable {m c : Int} {xs : List Int} {b : Bk}
theorem Lin.mem (h : Lin m c xs b) {y : Int × Int} : y ∈ b ↔ y.1 ∈ xs ∧ y.2 = m * y.1 + c := by
  rw [h.p.mem_iff, List.mem_map]
  constructor
  · rintro ⟨x, hx, rfl⟩; exact ⟨hx, rfl⟩
  · rintro ⟨h1, h2⟩; exact ⟨y.1, h1, by rw [← h2]⟩
theorem Lin.pl (h : Lin m c xs b) (x : Int) : x ∈ b.map Prod.fst ↔ x ∈ xs := by
  rw [List.mem_map]
  constructor
  · rintro ⟨y, hy, rfl⟩; exact (h.mem.mp hy).1
  · intro hx; exact ⟨(x, m * x + c), h.mem.mpr ⟨hx, rfl⟩, rfl⟩
theorem Lin.len (h : Lin m c xs b) : b.length = xs.length := by rw [h.p.length_eq, List.length_map]
theorem Lin.fit (h : Lin m c xs b) {y : Int × Int} (hy : y ∈ b) (x : Int) : Fit y (x, m * x + c) := by
  obtain ⟨_, e⟩ := h.mem.mp hy
  show (y.1 - x) ∣ (y.2 - (m * x + c))
  rw [e, show m * y.1 + c - (m * x + c) = (y.1 - x) * m by rw [Int.sub_mul, Int.mul_comm y.1, Int.mul_comm x]; omega]
  exact Int.dvd_mul_right _ _
theorem Lin.unfit (h : Lin m c xs b) (x : Int) : unfitL b (x, m * x + c) = [] := by
  unfold unfitL
  rw [List.map_eq_nil_iff, List.filter_eq_nil_iff]
  intro y hy
  rw [decide_eq_true (h.fit hy x)]
  decide
theorem Lin.snoc (h : Lin m c xs b) {x : Int} (hx : x ∉ xs) {b' : Bk} (hp : b'.Perm (b ++ [(x, m * x + c)])) : Lin m c (xs ++ [x]) b' := by
  refine ⟨hp.trans ?_, ?_⟩
  · rw [List.map_append]; exact h.p.append_right _
  · rw [List.nodup_append]
    exact ⟨h.nd, by simp, fun a ha b hb => by rw [List.mem_singleton.mp hb]; exact fun e => hx (e ▸ ha)⟩
theorem Lin.drop (h : Lin m c xs b) (x : Int) : Lin m c (xs.filter fun z => !decide (z = x)) (dropP x b) := by
  refine ⟨?_, h.nd.filter _⟩
  have := h.p.filter (fun y => !decide (y.1 = x))
  rw [List.filter_map] at this
  exact this
theorem Lin.drop_no (h : Lin m c xs b) {x : Int} (hx : x ∉ xs) : (dropP x b).length = b.length := by
  have : dropP x b = b := by
    unfold dropP
    rw [List.filter_eq_self]
    intro y hy
    rw [decide_eq_false (fun e : y.1 = x => hx (e ▸ (h.mem.mp hy).1))]
    rfl
  rw [this]
theorem Lin.drop_yes (h : Lin m c xs b) {x : Int} (hx : x ∈ xs) : (dropP x b).length ≠ b.length := fun e => by
  have : dropP x b = b := List.filter_sublist.eq_of_length e
  have hm : (x, m * x + c) ∈ b := h.mem.mpr ⟨hx, rfl⟩
  rw [← this] at hm
  have := (List.mem_filter.mp hm).2
  simp at this
end
theorem lastB_snoc (ss : List Bk) (b : Bk) : lastB (ss ++ [b]) = b := by unfold lastB; rw [List.getLast?_concat]; rfl
theorem StOk.one : StOk [[]] := ⟨by decide, by decide, by simp⟩
theorem StOk.snoc {ss : List Bk} (h : StOk ss) {b : Bk} (hb : b.length ≤ 24) (hl : ss.length < 1000) : StOk (ss ++ [b]) := ⟨by simp, by rw [List.length_append, List.length_singleton]; omega, fun x hx => by
  rcases List.mem_append.mp hx with hx | hx
  · exact h.sm x hx
  · rw [List.mem_singleton.mp hx]; exact hb⟩
theorem StOk.take {ss : List Bk} (h : StOk ss) {n : Nat} (hn : 0 < n) : StOk (ss.take n) := ⟨fun e => by
  have := congrArg List.length e
  rw [List.length_take, List.length_nil] at this
  have := List.length_pos_iff.mpr h.ne
  omega, by rw [List.length_take]; have := h.few; omega, fun x hx => h.sm x (List.mem_of_mem_take hx)⟩
section
variable {C CR CL CP CI CN a dx : Addr} {k : Nat} {ss : List Bk} {M : Cells} {Q : D → Cells → Prop} {E : Ex → Cells → Prop} {x v m c : Int} {xs : List Int}
theorem e_place {i : Nat} {A : Addr} {p : Int} (h : [CR, CL, CP, CI, CN][i]? = some A) (q : Q (.int i) M) : EAsk [CR, CL, CP, CI, CN] Q (placeE A p) M := ⟨i, h, .inr ⟨[("place", p)], rfl, by simp⟩, q⟩
theorem e_plain {i : Nat} {A : Addr} (h : [CR, CL, CP, CI, CN][i]? = some A) (q : Q (.int i) M) : EAsk [CR, CL, CP, CI, CN] Q ⟨A, []⟩ M := ⟨i, h, .inl rfl, q⟩
theorem ask_in (hk : NbAt C M a k dx ss) (ho : StOk ss) (h : (x, v) ∈ lastB ss) (q : Q .non M) : TAsk C CR CL CP CI CN [.int 0, .cel a, .int x, .int v] M Q E := by
  have hp : x ∈ (lastB ss).map Prod.fst := List.mem_map.mpr ⟨_, h, rfl⟩
  exact ⟨0, a, x, v, rfl, .inl ⟨rfl, a, k, dx, ss, x, v, rfl, hk, ho, fun _ => q, fun z => absurd h z, fun z => absurd hp z, fun z => absurd hp z, fun z => absurd hp z⟩⟩
theorem ask_clash (hk : NbAt C M a k dx ss) (ho : StOk ss) (h : (x, v) ∉ lastB ss) (h2 : x ∈ (lastB ss).map Prod.fst ∨ unfitL (lastB ss) (x, v) ≠ []) (q : Q (.int 0) M) : TAsk C CR CL CP CI CN [.int 0, .cel a, .int x, .int v] M Q E := by
  have no : x ∉ (lastB ss).map Prod.fst → unfitL (lastB ss) (x, v) ≠ [] := fun z => h2.resolve_left z
  exact ⟨0, a, x, v, rfl, .inl ⟨rfl, a, k, dx, ss, x, v, rfl, hk, ho, fun z => absurd z h, fun _ _ => e_place (i := 0) rfl q, fun z p r _ => e_place (i := 0) rfl q, fun z e => absurd e (no z), fun z e => absurd e (no z)⟩⟩
theorem ask_full (hk : NbAt C M a k dx ss) (ho : StOk ss) (h : x ∉ (lastB ss).map Prod.fst) (h2 : unfitL (lastB ss) (x, v) = []) (h3 : (lastB ss).length = 24) (q : Q (.int 1) M) : TAsk C CR CL CP CI CN [.int 0, .cel a, .int x, .int v] M Q E :=
  ⟨0, a, x, v, rfl, .inl ⟨rfl, a, k, dx, ss, x, v, rfl, hk, ho, fun z => absurd (List.mem_map.mpr ⟨_, z, rfl⟩) h, fun _ z => absurd z h, fun _ p r e => (by rw [h2] at e; cases e), fun _ _ _ => e_plain (i := 1) rfl q, fun _ _ z => absurd h3 z⟩⟩
theorem tell_new (hk : NbAt C M a k dx ss) (ho : StOk ss) (h : x ∉ (lastB ss).map Prod.fst) (h2 : unfitL (lastB ss) (x, v) = []) (h3 : (lastB ss).length ≠ 24) (q : ∀ b : Bk, b.Perm (lastB ss ++ [(x, v)]) → b.Pairwise LexLe → Q .non (M.set k (a, Cell.ins C dx (NbF (ss ++ [b]))))) : TTell C CR CL [.cel a, .int x, .int v] M Q E :=
  ⟨a, k, dx, ss, x, v, rfl, hk, ho, fun z => absurd (List.mem_map.mpr ⟨_, z, rfl⟩) h, fun _ z => absurd z h, fun _ p r e => (by rw [h2] at e; cases e), fun _ _ z => absurd z h3, fun _ _ _ => q⟩
theorem ask_new (hk : NbAt C M a k dx ss) (ho : StOk ss) (h : x ∉ (lastB ss).map Prod.fst) (h2 : unfitL (lastB ss) (x, v) = []) (h3 : (lastB ss).length ≠ 24) (q : ∀ b : Bk, b.Perm (lastB ss ++ [(x, v)]) → b.Pairwise LexLe → Q .non (M.set k (a, Cell.ins C dx (NbF (ss ++ [b]))))) : TAsk C CR CL CP CI CN [.int 0, .cel a, .int x, .int v] M Q E :=
  ⟨0, a, x, v, rfl, .inl ⟨rfl, tell_new hk ho h h2 h3 q⟩⟩
theorem ask_forget_no (hk : NbAt C M a k dx ss) (ho : StOk ss) (h : (dropP x (lastB ss)).length = (lastB ss).length) (q : Q (.int 2) M) : TAsk C CR CL CP CI CN [.int 1, .cel a, .int x, .int v] M Q E :=
  ⟨1, a, x, v, rfl, .inr (.inl ⟨rfl, a, k, dx, ss, x, rfl, hk, ho, fun _ => e_plain (i := 2) rfl q, fun z => absurd h z⟩)⟩
theorem forget_yes (hk : NbAt C M a k dx ss) (ho : StOk ss) (h : (dropP x (lastB ss)).length ≠ (lastB ss).length) (q : Q .non (M.set k (a, Cell.ins C dx (NbF (ss ++ [dropP x (lastB ss)]))))) : TForget C CP [.cel a, .int x] M Q E :=
  ⟨a, k, dx, ss, x, rfl, hk, ho, fun z => absurd z h, fun _ => q⟩
theorem ask_forget_yes (hk : NbAt C M a k dx ss) (ho : StOk ss) (h : (dropP x (lastB ss)).length ≠ (lastB ss).length) (q : Q .non (M.set k (a, Cell.ins C dx (NbF (ss ++ [dropP x (lastB ss)]))))) : TAsk C CR CL CP CI CN [.int 1, .cel a, .int x, .int v] M Q E :=
  ⟨1, a, x, v, rfl, .inr (.inl ⟨rfl, forget_yes hk ho h q⟩)⟩
theorem ask_to_no (hk : NbAt C M a k dx ss) (ho : StOk ss) (h : ¬ (0 ≤ x ∧ x < ss.length)) (q : Q (.int 3) M) : TAsk C CR CL CP CI CN [.int 2, .cel a, .int x, .int v] M Q E :=
  ⟨2, a, x, v, rfl, .inr (.inr (.inl ⟨rfl, a, k, dx, ss, x, rfl, hk, ho, fun _ => e_plain (i := 3) rfl q, fun y z => absurd ⟨y, z⟩ h⟩))⟩
theorem to_yes (hk : NbAt C M a k dx ss) (ho : StOk ss) (h0 : 0 ≤ x) (h1 : x < ss.length) (q : Q .non (M.set k (a, Cell.ins C dx (NbF (ss.take (x.toNat + 1)))))) : TUndoTo C CI [.cel a, .int x] M Q E :=
  ⟨a, k, dx, ss, x, rfl, hk, ho, fun z => absurd ⟨h0, h1⟩ z, fun _ _ => q⟩
theorem ask_to_yes (hk : NbAt C M a k dx ss) (ho : StOk ss) (h0 : 0 ≤ x) (h1 : x < ss.length) (q : Q .non (M.set k (a, Cell.ins C dx (NbF (ss.take (x.toNat + 1)))))) : TAsk C CR CL CP CI CN [.int 2, .cel a, .int x, .int v] M Q E :=
  ⟨2, a, x, v, rfl, .inr (.inr (.inl ⟨rfl, to_yes hk ho h0 h1 q⟩))⟩
theorem ask_undo_no (hk : NbAt C M a k dx ss) (ho : StOk ss) (h : ss.length = 1) (q : Q (.int 4) M) : TAsk C CR CL CP CI CN [.int 3, .cel a, .int x, .int v] M Q E :=
  ⟨3, a, x, v, rfl, .inr (.inr (.inr ⟨rfl, a, k, dx, ss, rfl, hk, ho, fun _ => e_plain (i := 4) rfl q, fun z => absurd h z⟩))⟩
end
/-- what is read of a notebook -/
def stateD (ss : List Bk) : D := .lst [.lst (bookD (lastB ss)), .int ((ss.length : Int) - 1), .int ((ss.length : Int) - 1)]
def TState (C : Addr) : TSp := fun ds M Q _ => ∃ (a : Addr) (k : Nat) (dx : Addr) (ss : List Bk), ds = [.cel a] ∧ NbAt C M a k dx ss ∧ StOk ss ∧ Q (stateD ss) M
theorem TState_mono (C : Addr) : Mono (TState C) := fun ds M Q Q' E E' h _ ⟨a, k, dx, ss, h1, h2, h3, h4⟩ => ⟨a, k, dx, ss, h1, h2, h3, h _ _ h4⟩
theorem TState_len (C : Addr) : ∀ ds M Q E, TState C ds M Q E → ds.length = 1 := fun ds M Q E h => by obtain ⟨_, _, _, _, rfl, _⟩ := h; rfl
theorem alk_state {M : Cells} {ss : List Bk} (h : StOk ss) : Alk M 3 (stateD ss) (stateD ss) := alk_l .l .l (by show 3 ≤ 1000000; decide) (.cons (alk_book .l .l (by have := h.last; omega)) (.cons (.int _) (.cons (.int _) .nil)))
section
variable {P : Program} {w : World} {K : PySem.W.Frag} {mg : Str → Option Value} {base : Heap}
local macro_rules
  | `(tactic| walk_at "ok") => `(tactic| first
  | ((show BlkOk N_l_state (defScope st_l_state) _ _); exact blkOk_by (by decide +kernel)))
  | `(tactic| walk_at "eWECall") => `(tactic| first
  | ((with_reducible refine gC "len" ?_); refine we_len rfl (by assumption) ?_))
  | `(tactic| walk_at "eWE") => `(tactic| first
  | ((with_reducible show WE _ _ (Expr.Attribute _ "book" _) _ _ _); refine we_prp (f := "book") (by assumption) (by walk_at "r") ?_))
local macro_rules
  | `(tactic| walk_at "eWECall") => `(tactic| first
  | ((with_reducible show WE _ _ (Expr.Call (Expr.Attribute _ "mark" _) [] [] _) _ _ _); refine we_meth0 (m := "mark") (by assumption) (by walk_at "r") ?_))
  | `(tactic| walk_at "n") => `(tactic| first
  | ((with_reducible refine gN "_law_notebook" ?_); refine we_nm 0 rfl rfl ?_))
  | `(tactic| walk_at "t") => `(tactic| first
  | ((with_reducible show WS _ _ (Stmt.Assign [Expr.Tuple _ _ _] _ _) _ _ _); refine ws_asg ?_))
local macro_rules | `(tactic| walk_at "eWECall") => `(tactic| ((with_reducible show WE _ _ (Expr.Call (Expr.Name "len" _) [Expr.Name "_law_notebook" _] [] _) _ _ _); refine we_ln (by assumption) (by walk_at "r") rfl (by assumption) (by decide +kernel) ?_))
theorem fn_state {f : Addr} {fd : FuncData} {C : Addr} (b_len : mg "len" = none) (p_book : FPr P w K mg base 1 C "book" (TBkP C)) (l_len : FLn P w K mg base 1 C (TNbLen C)) (d_mark : FM P w K mg base 1 C "mark" 1 (TNbLen C)) (Fn : L2.Fun K "_law_state" "_law_state" st_l_state f fd) :
    FnOk P w K mg base (L2.CX P w) 3 f fd ["_law_notebook"] (spG K (TState C)) := by
  refine fn_ok Fn sc_l_state rfl (TState_len C) ?_
  intro cdv A outer s H E N hr ds M Q X' h
  obtain ⟨a, k, dx, ss, rfl, hk, ho, q⟩ := h
  show WB _ _ _ [some _] _ _
  refine wb_one (ws_ret (we_lst (wa_cons (we_froz 0 ?_))))
  walk_at "g"
  refine ⟨a, k, dx, _, rfl, hk, a, k, dx, ss, rfl, hk, ho, fun p => ⟨p, _, rfl, rfl, ?_⟩⟩
  walk_at "g"
  have hl := ho.few
  have hl0 := List.length_pos_iff.mpr ho.ne
  refine ⟨a, k, dx, _, rfl, hk, a, k, dx, ss, rfl, hk, ho, _, rfl, by omega, by omega, ?_⟩
  walk_at "g"
  refine ⟨a, k, dx, _, rfl, hk, rfl, a, k, dx, ss, rfl, hk, ho, ?_⟩
  walk_at "g"
  exact q
end
/-! NbF -/
set_option exponentiation.threshold 100000
theorem tdraw {b : Addr} {wide : Int} {M : Cells} {Q : D → Cells → Prop} {E : Ex → Cells → Prop} (hw : 0 < wide) (hw2 : wide.natAbs < 2 ^ 2000) (h : CL M b fun L f => BagL L ∧ ∀ r L', 0 ≤ r → r < wide → BagL L' → Q (.int r) (f L')) : TDraw [.cel b, .int wide] M Q E := by
  obtain ⟨k, L, hk, hL, q⟩ := h
  exact ⟨b, k, L, wide, rfl, hk, hL, hw, hw2, q⟩
def TRightN : TSp := fun ds M Q _ => ∃ (b : Addr), ds = [.cel b] ∧ CL M b fun L f => BagL L ∧ ∀ L' rest, BagL L' → Q (.bl true) (rest ++ f L')
theorem TRightN_mono : Mono TRightN := fun ds M Q Q' E E' h _ ⟨b, h1, h4⟩ => ⟨b, h1, h4.imp fun L f ⟨g1, g2⟩ => ⟨g1, fun L' rest a => h _ _ (g2 L' rest a)⟩⟩
theorem TRightN_len : ∀ ds M Q E, TRightN ds M Q E → ds.length = 1 := fun ds M Q E h => by obtain ⟨_, rfl, _⟩ := h; rfl
theorem cpw29 : CPw 10 29 := ⟨by decide, by have := intBits_le (i := 10) (n := 4) (by decide); omega⟩
/-- the k-th place -/
def fSpot : D → D
  | .int i => .int (3 * i * (1 - 2 * (if decide (9 < i) = true then 1 else 0)))
  | _ => .non
def spotN (k : Nat) : Int := 3 * (0 + (k : Int)) * (1 - 2 * (if decide (9 < 0 + (k : Int)) = true then 1 else 0))
def spotL (n : Nat) : List Int := (List.range n).map spotN
theorem spotN_eq (k : Nat) : spotN k = if k ≤ 9 then 3 * (k : Int) else -3 * (k : Int) := by
  unfold spotN
  by_cases h : k ≤ 9
  · rw [if_pos h, decide_eq_false (by omega), if_neg (by decide)]; omega
  · rw [if_neg h, decide_eq_true (by omega), if_pos rfl]; omega
theorem spot_inj {i j : Nat} (h : spotN i = spotN j) : i = j := by
  rw [spotN_eq, spotN_eq] at h
  split at h <;> split at h <;> omega
theorem spot_new (n : Nat) : spotN n ∉ spotL n := fun h => by
  obtain ⟨i, hi, e⟩ := List.mem_map.mp h
  have := spot_inj e
  have := List.mem_range.mp hi
  omega
theorem spotL_succ (n : Nat) : spotL (n + 1) = spotL n ++ [spotN n] := by unfold spotL; rw [List.range_succ, List.map_append]; rfl
theorem spotL_len (n : Nat) : (spotL n).length = n := by unfold spotL; rw [List.length_map, List.length_range]
theorem spot_D (n : Nat) : (rangeD 0 n).map fSpot = (spotL n).map D.int := by
  unfold rangeD spotL
  rw [List.map_map, List.map_map]
  rfl
section
variable {P : Program} {w : World} {K : PySem.W.Frag} {mg : Str → Option Value} {base : Heap}
local macro_rules
  | `(tactic| walk_at "ok") => `(tactic| first
  | ((show BlkOk N_l_right (defScope st_l_right) _ _); exact blkOk_by (by decide +kernel)))
  | `(tactic| walk_at "tS") => `(tactic| first
  | ((with_reducible refine gS "_law_told" ?_); refine ws_st 4 ?_)
  | ((with_reducible refine gS "_law_spots_in" ?_); refine ws_st 5 ?_)
  | ((with_reducible refine gS "_law_before" ?_); refine ws_st 7 ?_)
  | ((with_reducible refine gS "_law_spot" ?_); refine ws_st 8 ?_))
  | `(tactic| walk_at "tG") => `(tactic| first
  | ((with_reducible refine gG "_law_far" ?_); refine wg_nm 1 ?_)
  | ((with_reducible refine gG "_law_notebook" ?_); refine wg_nm 2 ?_)
  | ((with_reducible refine gG "_law_many" ?_); refine wg_nm 3 ?_)
  | ((with_reducible refine gG "_law_x" ?_); refine wg_nm 6 ?_)
  | ((with_reducible refine gG "_law_k" ?_); refine wg_nm 9 ?_))
  | `(tactic| walk_at "eWECall") => `(tactic| first
  | ((with_reducible show WE _ _ (Expr.Call (Expr.Name _ _) _ _ _) _ _ _); walk_at "c")
  | ((with_reducible refine gC "len" ?_); refine we_len rfl (by assumption) ?_)
  | ((with_reducible refine gC "int" ?_); refine we_int2 rfl (by assumption) ?_))
local macro_rules
  | `(tactic| walk_at "eWECall") => `(tactic| first
  | ((with_reducible show WE _ _ (Expr.Call (Expr.Name "Notebook" _) [] [] _) _ _ _); refine we_mk (by assumption) (by walk_at "r") rfl ?_)
  | ((with_reducible show WE _ _ (Expr.Call (Expr.Attribute _ "tell" _) [_, _] [] _) _ _ _); refine we_meth (m := "tell") (by assumption) (by walk_at "r") ?_))
  | `(tactic| walk_at "n") => `(tactic| first
  | ((with_reducible show WE _ _ (Expr.Name "Notebook" _) _ _ _); refine we_glob (v := .ref _) rfl (by assumption) rfl (fun _ _ => .raw _) ?_))
local macro_rules
  | `(tactic| walk_at "n") => `(tactic| first
  | ((with_reducible refine gN "_law_notebook" ?_); refine we_nm 2 rfl rfl ?_)
  | ((with_reducible refine gN "_law_spot" ?_); refine we_nm 8 rfl rfl ?_)
  | ((with_reducible refine gN "_law_many" ?_); refine we_nm 3 rfl rfl ?_)
  | ((with_reducible refine gN "_law_told" ?_); refine we_nm 4 rfl rfl ?_)
  | ((with_reducible refine gN "_law_bag_here" ?_); refine we_nm 0 rfl rfl ?_)
  | ((with_reducible refine gN "_law_spots_in" ?_); refine we_nm 5 rfl rfl ?_)
  | ((with_reducible refine gN "_law_x" ?_); refine we_nm 6 rfl rfl ?_)
  | ((with_reducible refine gN "_law_k" ?_); refine we_nm 9 rfl rfl ?_)
  | ((with_reducible show WE _ _ (Expr.Name "int" _) _ _ _); refine we_bltn (v := .ty "int") rfl (by assumption) (by decide +kernel) rfl ?_)
  | ((with_reducible refine gN "_law_far" ?_); refine we_nm 1 rfl rfl ?_)
  | ((with_reducible refine gN "_law_before" ?_); refine we_nm 7 rfl rfl ?_))
  | `(tactic| walk_at "t") => `(tactic| first
  | ((with_reducible show WS _ _ (Stmt.Assign [Expr.Name _ _] _ _) _ _ _); walk_at "tS")
  | ((with_reducible show WG _ _ (Expr.Name _ _) _ _ _ _); walk_at "tG")
  | ((with_reducible show WS _ _ (Stmt.Assign [Expr.Tuple [Expr.Name "_law_far" _, Expr.Name "_law_notebook" _, Expr.Name "_law_many" _] _ _] (Expr.Tuple _ _ _) _) _ _ _); first | refine ws_par3 (i := 1) (j := 2) (l := 3) (by assumption) rfl rfl rfl (by decide) (by decide) (by decide) rfl rfl rfl rfl ?_ | refine ws_asg ?_)
  | ((with_reducible show WS _ _ (Stmt.Assign [Expr.Tuple _ _ _] _ _) _ _ _); refine ws_asg ?_))
  | `(tactic| walk_at "c") => `(tactic| first
  | ((with_reducible refine gCK "_law_asked" ?_); refine we_cl "_law_asked" ?_)
  | ((with_reducible refine gCK "_law_alike" ?_); refine we_cl "_law_alike" ?_)
  | ((with_reducible refine gCK "_law_draw" ?_); refine we_cl "_law_draw" ?_)
  | ((with_reducible refine gCK "_law_state" ?_); refine we_cl "_law_state" ?_))
  | `(tactic| walk_at "tg") => `(tactic| first
  | exact Tg.one (i := 9) rfl rfl)
  | `(tactic| walk_at "eWECall") => `(tactic| ((with_reducible show WE _ _ (Expr.Call (Expr.Name "len" _) [Expr.Name "_law_notebook" _] [] _) _ _ _); refine we_ln (by assumption) (by walk_at "r") rfl (by assumption) (by decide +kernel) ?_))
theorem fn_right {f : Addr} {fd : FuncData} {C CR CL' CP CI CN : Addr} (b_int : mg "int" = none) (b_len : mg "len" = none) (b_range : mg "range" = none) (d_draw : FD P w K mg base 2 "_law_draw" 2 TDraw) (d_alike : FD P w K mg base 4 "_law_alike" 2 (TAlk 3)) (d_state : FD P w K mg base 3 "_law_state" 1 (TState C))
    (d_asked : FD P w K mg base 4 "_law_asked" 4 (TAsk C CR CL' CP CI CN)) (mk : FMk P w K mg base 1 "Notebook" C (TInit C)) (l_len : FLn P w K mg base 1 C (TNbLen C)) (d_tell : FM P w K mg base 3 C "tell" 3 (TTell C CR CL'))
    (Fn : L2.Fun K "_law_right" "_law_right" st_l_right f fd) : FnOk P w K mg base (L2.CX P w) 5 f fd ["_law_bag_here"] (spG K TRightN) := by
  refine fn_ok Fn sc_l_right rfl TRightN_len ?_
  intro cdv A outer s H E N hr ds M Q X' h
  obtain ⟨b, rfl, kb, L, hM, hL, q⟩ := h
  show WB _ _ _ [some _, none, none, none, none, none, none, none, none, none] _ _
  refine wb_cons ?_
  walk_at "g"
  refine we_lst ?_
  walk_at "g"
  refine tdraw (by decide) (by decide) (cl_k hM ⟨hL, fun r1 L1 h10 h11 hL1 => ?_⟩)
  have e1 : r1 = 0 ∨ r1 = 1 ∨ r1 = 2 ∨ r1 = 3 := by omega
  have pick : ∃ z : Int, atI [D.int (-1), D.int 25, D.int (10 ^ Int.toNat 29), D.int (0 - 10 ^ Int.toNat 29)] r1 = some (.int z) ∧ (z < 0 ∨ 25 ≤ z) := by
    rcases e1 with rfl | rfl | rfl | rfl
    · exact ⟨-1, rfl, by decide⟩
    · exact ⟨25, rfl, by decide⟩
    · exact ⟨_, rfl, by decide⟩
    · exact ⟨_, rfl, by decide⟩
  obtain ⟨far, hz, hfar⟩ := pick
  walk_at "g"
  refine ⟨_, hz, ?_⟩
  walk_at "g"
  intro a dx
  refine ⟨a, 0, dx, rfl, rfl, rfl, ?_⟩
  walk_at "g"
  all_goals (try exact cpw29)
  show TDraw _ ((a, Cell.ins C dx (NbF [[]])) :: M.set kb (b, .lst L1)) _ _
  refine tdraw (by decide) (by decide) (cl_skip (cl_set hM ⟨hL1, fun r2 L2 h20 h21 hL2 => ?_⟩))
  walk_at "g"
  obtain ⟨many, hmn⟩ : ∃ n : Nat, (n : Int) = 1 + r2 := ⟨(1 + r2).toNat, by omega⟩
  have hm1 : 1 ≤ many ∧ many ≤ 24 := by omega
  rw [← hmn]
  have hk0 : NbAt C ((a, Cell.ins C dx (NbF [[]])) :: M.set kb (b, .lst L2)) a 0 dx [[]] := rfl
  refine ⟨_, _, _, rfl, ?_⟩
  walk_at "g"
  refine we_lst ?_
  walk_at "g"
  refine ask_undo_no hk0 .one rfl ?_
  walk_at "g"
  refine ask_to_no hk0 .one (by decide) ?_
  walk_at "g"
  refine ask_to_yes hk0 .one (by decide) (by decide) ?_
  walk_at "g"
  refine we_lst ?_
  walk_at "g"
  refine ask_forget_no hk0 .one rfl ?_
  walk_at "g"
  refine .inr (.inr ⟨_, _, .l, .l, by show 4 ≤ sizeLine; decide, ?_⟩)
  walk_at "g"
  refine we_lst ?_
  walk_at "g"
  refine ⟨_, _, rfl, alk_l .l .l (by show 4 ≤ 1000000; decide) (.cons (.int _) (.cons (.int _) (.cons .non (.cons (.int _) .nil)))), ?_⟩
  walk_at "g"
  refine ws_setLC (i := 5) N rfl rfl (lc_froz 0 (lc_lcM fSpot N (by walk_at "tg") (by walk_at "ok") (wi_range1 rfl (by assumption) ?_)))
  walk_at "g"
  refine ⟨by omega, by omega, by rw [rangeD_len, sizeLine_eq]; omega, fun _ _ => trivial, ?_, ?_⟩
  · intro j d' acc p hd
    obtain ⟨hj, rfl⟩ := rangeD_inv hd
    refine ⟨_, rfl, fun B' => ?_⟩
    walk_at "g"
    refine .inr (.inl ⟨_, rfl, ?_⟩)
    walk_at "g"
    all_goals first | exact ⟨rfl, rfl⟩ | exact IntMulOk.of_left (by decide) | exact IntMulOk.of_right (by split <;> decide)
  intro p
  refine ⟨p, _, rfl, rfl, ?_⟩
  rw [show ((many : Nat) : Int).toNat = many by omega, spot_D]
  walk_at "g"
  refine ws_for N (wi_list ?_)
  walk_at "g"
  refine ⟨_, .l, fun j δ' M' => ∃ (x4 x6 : Option D) (ss : List Bk), δ' = [some (.cel b), some (.int far), some (.cel a), some (.int many), x4, some (.lst ((spotL many).map D.int)), x6, none, none, none] ∧ M' = (a, Cell.ins C dx (NbF ss)) :: M.set kb (b, .lst L2) ∧ StOk ss ∧ ss.length = j + 1 ∧ Lin 2 (10 ^ Int.toNat 29) (spotL j) (lastB ss), ?_, ?_, ?_, ?_⟩
  · exact ⟨_, _, [[]], rfl, rfl, .one, rfl, ⟨.nil, .nil⟩⟩
  · rintro j δ' M' hj ⟨x4, x6, ss, rfl, rfl, _⟩
    exact .l
  · rintro j d δ' M' hd ⟨x4, x6, ss, rfl, rfl, ho, hln, hl⟩
    obtain ⟨x, hx, rfl⟩ : ∃ x, (spotL many)[j]? = some x ∧ d = .int x := by
      rw [List.getElem?_map] at hd
      cases e : (spotL many)[j]? with
      | none => rw [e] at hd; cases hd
      | some x => rw [e] at hd; cases hd; exact ⟨x, rfl, rfl⟩
    have hj : j < many := by have := (List.getElem?_eq_some_iff.mp hx).1; rwa [spotL_len] at this
    have ex : x = spotN j := by
      unfold spotL at hx
      rw [List.getElem?_map, List.getElem?_range hj] at hx
      exact (Option.some.inj hx).symm
    subst ex
    walk_at "g"
    refine ⟨a, 0, dx, _, rfl, rfl, rfl, ?_⟩
    walk_at "g"
    have hk : NbAt C ((a, Cell.ins C dx (NbF ss)) :: M.set kb (b, .lst L2)) a 0 dx ss := rfl
    refine tell_new hk ho (fun z => spot_new j ((hl.pl _).mp z)) (hl.unfit _) (by rw [hl.len, spotL_len]; omega) fun b' hp _ => ?_
    walk_at "g"
    have hl' := hl.snoc (spot_new j) hp
    rw [← spotL_succ] at hl'
    refine ⟨_, _, ss ++ [b'], rfl, rfl, ho.snoc (by rw [hl'.len, spotL_len]; omega) (by omega), by rw [List.length_append, List.length_singleton]; omega, by rw [lastB_snoc]; exact hl'⟩
    all_goals first | exact cpw29 | exact IntMulOk.of_left (by decide)
  · rintro δ' M' ⟨x4, x6, ss, rfl, rfl, ho, hln, hl⟩
    rw [List.length_map, spotL_len] at hln hl
    have hk : ∀ L, NbAt C ((a, Cell.ins C dx (NbF ss)) :: M.set kb (b, .lst L)) a 0 dx ss := fun L => rfl
    walk_at "g"
    refine ⟨a, 0, dx, ss, rfl, hk _, ho, ?_⟩
    walk_at "g"
    refine tdraw (by omega) (Nat.lt_of_lt_of_le (show _ < 2 ^ 10 by omega) (Nat.pow_le_pow_right (by decide) (by decide))) (cl_skip (cl_set hM ⟨hL2, fun r3 L3 h30 h31 hL3 => ?_⟩))
    obtain ⟨n, rfl⟩ : ∃ n : Nat, r3 = n := ⟨r3.toNat, by omega⟩
    have hn : n < many := by omega
    have gn : ((spotL many).map D.int)[n]? = some (.int (spotN n)) := by
      unfold spotL
      rw [List.getElem?_map, List.getElem?_map, List.getElem?_range hn]
      rfl
    have hmem : spotN n ∈ spotL many := List.mem_map.mpr ⟨n, List.mem_range.mpr hn, rfl⟩
    walk_at "g"
    refine ⟨_, atI_nat gn, ?_⟩
    have h90 : spotN n + 90 ∈ spotL many ∨ spotN n + 90 ∉ spotL many := Classical.em _
    have h1 : spotN n + 1 ∉ spotL many := fun h => by
      obtain ⟨i, _, e⟩ := List.mem_map.mp h
      rw [spotN_eq, spotN_eq] at e
      split at e <;> split at e <;> omega
    generalize hsp : spotN n = sp at hmem h90 h1
    have hin : (sp, 2 * sp + 10 ^ Int.toNat 29) ∈ lastB ss := hl.mem.mpr ⟨hmem, rfl⟩
    have hplc : sp ∈ (lastB ss).map Prod.fst := (hl.pl sp).mpr hmem
    walk_at "g"
    refine we_lst ?_
    walk_at "g"
    refine ask_clash (hk _) ho (fun z => by have := (hl.mem.mp z).2; omega) (.inl hplc) ?_
    walk_at "g"
    refine ask_in (hk _) ho hin ?_
    walk_at "g"
    refine we_lst ?_
    walk_at "g"
    refine ask_clash (hk _) ho (fun z => by have := (hl.mem.mp z).2; omega) ?_ ?_
    · rcases h90 with h90 | h90
      · exact .inl ((hl.pl _).mpr h90)
      · refine .inr fun e => ?_
        have hm : sp ∈ unfitL (lastB ss) (sp + 90, 2 * sp + 10 ^ Int.toNat 29 + 1) := by
          refine List.mem_map.mpr ⟨_, List.mem_filter.mpr ⟨hin, ?_⟩, rfl⟩
          rw [decide_eq_false]
          · rfl
          · intro hf
            have hf : (sp - (sp + 90)) ∣ (2 * sp + 10 ^ Int.toNat 29 - (2 * sp + 10 ^ Int.toNat 29 + 1)) := hf
            rw [show sp - (sp + 90) = -90 by omega, show 2 * sp + 10 ^ Int.toNat 29 - (2 * sp + 10 ^ Int.toNat 29 + 1) = -1 by omega] at hf
            exact absurd hf (by decide)
        rw [e] at hm
        cases hm
    walk_at "g"
    refine ask_forget_no (hk _) ho (hl.drop_no h1) ?_
    walk_at "g"
    refine .inr (.inr ⟨_, _, .l, .l, by show 4 ≤ sizeLine; decide, ?_⟩)
    walk_at "g"
    refine we_lst ?_
    walk_at "g"
    refine ask_to_no (hk _) ho (by omega) ?_
    walk_at "g"
    refine ask_to_no (hk _) ho (by omega) ?_
    walk_at "g"
    refine .inr (.inr ⟨_, _, .l, .l, by show 6 ≤ sizeLine; decide, ?_⟩)
    walk_at "g"
    refine we_lst ?_
    walk_at "g"
    refine ask_to_yes (hk _) ho (by omega) (by omega) ?_
    rw [List.take_of_length_le (show ss.length ≤ (many : Int).toNat + 1 by omega)]
    walk_at "g"
    refine .inr (.inr ⟨_, _, .l, .l, by show 7 ≤ sizeLine; decide, ?_⟩)
    walk_at "g"
    refine we_lst ?_
    walk_at "g"
    refine ⟨_, _, rfl, alk_l .l .l (by show 7 ≤ 1000000; decide) (.cons (.int _) (.cons .non (.cons (.int _) (.cons (.int _) (.cons (.int _) (.cons (.int _) (.cons .non .nil))))))), ?_⟩
    walk_at "g"
    refine ⟨a, 0, dx, ss, rfl, rfl, ho, ?_⟩
    walk_at "g"
    refine ⟨_, _, rfl, alk_state ho, ?_⟩
    have hc : (100 : Int) < 10 ^ Int.toNat 29 := by decide
    have hfar2 : (10 : Int) ^ Int.toNat 29 ∉ spotL many := fun h => by
      obtain ⟨i, hi, e⟩ := List.mem_map.mp h
      have := List.mem_range.mp hi
      rw [spotN_eq] at e
      split at e <;> omega
    have e3 : (3 : Int) * 10 ^ Int.toNat 29 = 2 * 10 ^ Int.toNat 29 + 10 ^ Int.toNat 29 := by omega
    walk_at "g"
    by_cases h24 : many = 24
    · rw [e3]
      refine ask_full (hk _) ho (fun z => hfar2 ((hl.pl _).mp z)) (hl.unfit _) (by rw [hl.len, spotL_len]; exact h24) ?_
      walk_at "g"
      refine iteP (decide_eq_true (by omega)) ?_
      walk_at "g"
      refine ⟨_, _, rfl, .int _, ?_⟩
      walk_at "g"
      refine ⟨a, 0, dx, _, rfl, rfl, a, 0, dx, ss, rfl, hk _, ho, _, rfl, by omega, by omega, ?_⟩
      walk_at "g"
      refine .inr (.inl ⟨_, rfl, ?_⟩)
      rw [decide_eq_false (show ¬ (many : Int) < 24 by omega)]
      walk_at "g"
      refine iteP (decide_eq_true (by rw [if_neg (by decide)]; omega)) ?_
      walk_at "g"
      refine ask_forget_yes (hk _) ho (hl.drop_yes hmem) ?_
      walk_at "g"
      refine ⟨_, _, rfl, .non, ?_⟩
      walk_at "g"
      exact q L3 [(a, Cell.ins C dx (NbF (ss ++ [dropP sp (lastB ss)])))] hL3
    · rw [e3]
      refine ask_new (hk _) ho (fun z => hfar2 ((hl.pl _).mp z)) (hl.unfit _) (by rw [hl.len, spotL_len]; exact h24) fun b' hp _ => ?_
      have hl' := hl.snoc hfar2 hp
      have ho' : StOk (ss ++ [b']) := ho.snoc (by rw [hl'.len, List.length_append, spotL_len]; simp only [List.length_singleton]; omega) (by omega)
      walk_at "g"
      refine iteQ (decide_eq_false (by omega)) ?_
      walk_at "g"
      refine ⟨_, _, rfl, .non, ?_⟩
      have hk' : ∀ L, NbAt C ((a, Cell.ins C dx (NbF (ss ++ [b']))) :: M.set kb (b, .lst L)) a 0 dx (ss ++ [b']) := fun L => rfl
      have hn' : (ss ++ [b']).length = ss.length + 1 := by rw [List.length_append, List.length_singleton]
      walk_at "g"
      refine ⟨a, 0, dx, _, rfl, rfl, a, 0, dx, _, rfl, hk' _, ho', _, rfl, by omega, by omega, ?_⟩
      walk_at "g"
      refine .inr (.inl ⟨_, rfl, ?_⟩)
      rw [decide_eq_true (show (many : Int) < 24 by omega)]
      walk_at "g"
      refine iteP (decide_eq_true (by rw [if_pos rfl]; omega)) ?_
      walk_at "g"
      refine ask_forget_yes (hk' _) ho' (by rw [lastB_snoc]; exact hl'.drop_yes (List.mem_append_left _ hmem)) ?_
      walk_at "g"
      refine ⟨_, _, rfl, .non, ?_⟩
      walk_at "g"
      exact q L3 [(a, Cell.ins C dx (NbF (ss ++ [b'] ++ [dropP sp (lastB (ss ++ [b']))])))] hL3
    all_goals first | exact cpw29 | exact IntMulOk.of_left (by decide)
end
/-! NbG -/
set_option exponentiation.threshold 100000
/-- 0, 1, .. as they are counted -/
def cntL (n : Nat) : List Int := (List.range n).map fun i : Nat => (0 : Int) + (i : Nat)
theorem cntL_succ (n : Nat) : cntL (n + 1) = cntL n ++ [(0 : Int) + (n : Nat)] := by unfold cntL; rw [List.range_succ, List.map_append]; rfl
theorem cntL_mem {n : Nat} {z : Int} : z ∈ cntL n ↔ 0 ≤ z ∧ z < n := by
  unfold cntL
  rw [List.mem_map]
  constructor
  · rintro ⟨i, hi, rfl⟩; have := List.mem_range.mp hi; omega
  · rintro ⟨h0, h1⟩; exact ⟨z.toNat, List.mem_range.mpr (by omega), by omega⟩
theorem cntL_len (n : Nat) : (cntL n).length = n := by unfold cntL; rw [List.length_map, List.length_range]
def TLaw : TSp := fun ds M Q _ => ∃ ns : List Int, ds = [.lst (ns.map D.int)] ∧ ns.length ≤ 63 ∧ ∀ M', Q (.bl true) M'
theorem TLaw_len : ∀ ds M Q E, TLaw ds M Q E → ds.length = 1 := fun ds M Q E h => by obtain ⟨_, rfl, _⟩ := h; rfl
section
variable {P : Program} {w : World} {K : PySem.W.Frag} {mg : Str → Option Value} {base : Heap}
local macro_rules
  | `(tactic| walk_at "ok") => `(tactic| first
  | ((show BlkOk N_law (defScope st_law) _ _); exact blkOk_by (by decide +kernel)))
  | `(tactic| walk_at "tS") => `(tactic| first
  | ((with_reducible refine gS "_law_bag_here" ?_); refine ws_st 1 ?_)
  | ((with_reducible refine gS "_law_notebook" ?_); refine ws_st 3 ?_)
  | ((with_reducible refine gS "_law_before" ?_); refine ws_st 5 ?_)
  | ((with_reducible refine gS "_law_told" ?_); refine ws_st 6 ?_))
  | `(tactic| walk_at "tG") => `(tactic| first
  | ((with_reducible refine gG "_law_turn" ?_); refine wg_nm 2 ?_)
  | ((with_reducible refine gG "_law_k" ?_); refine wg_nm 4 ?_))
  | `(tactic| walk_at "eWECall") => `(tactic| first
  | ((with_reducible show WE _ _ (Expr.Call (Expr.Name _ _) _ _ _) _ _ _); walk_at "c")
  | ((with_reducible refine gC "len" ?_); refine we_len rfl (by assumption) ?_))
  | `(tactic| walk_at "eWE") => `(tactic| first
  | ((with_reducible show WE _ _ (Expr.Attribute _ "book" _) _ _ _); refine we_prp (f := "book") (by assumption) (by walk_at "r") ?_))
local macro_rules
  | `(tactic| walk_at "eWECall") => `(tactic| first
  | ((with_reducible show WE _ _ (Expr.Call (Expr.Name "Notebook" _) [] [] _) _ _ _); refine we_mk (by assumption) (by walk_at "r") rfl ?_)
  | ((with_reducible show WE _ _ (Expr.Call (Expr.Attribute _ "tell" _) [_, _] [] _) _ _ _); refine we_meth (m := "tell") (by assumption) (by walk_at "r") ?_)
  | ((with_reducible show WE _ _ (Expr.Call (Expr.Attribute _ "forget" _) [_] [] _) _ _ _); refine we_meth (m := "forget") (by assumption) (by walk_at "r") ?_)
  | ((with_reducible show WE _ _ (Expr.Call (Expr.Attribute _ "undo" _) [] [] _) _ _ _); refine we_meth0 (m := "undo") (by assumption) (by walk_at "r") ?_)
  | ((with_reducible show WE _ _ (Expr.Call (Expr.Attribute _ "undo_to" _) [_] [] _) _ _ _); refine we_meth (m := "undo_to") (by assumption) (by walk_at "r") ?_))
  | `(tactic| walk_at "n") => `(tactic| first
  | ((with_reducible show WE _ _ (Expr.Name "Notebook" _) _ _ _); refine we_glob (v := .ref _) rfl (by assumption) rfl (fun _ _ => .raw _) ?_))
local macro_rules
  | `(tactic| walk_at "n") => `(tactic| first
  | ((with_reducible refine gN "_law_notebook" ?_); refine we_nm 3 rfl rfl ?_)
  | ((with_reducible refine gN "_law_k" ?_); refine we_nm 4 rfl rfl ?_)
  | ((with_reducible refine gN "_law_bag_here" ?_); refine we_nm 1 rfl rfl ?_)
  | ((with_reducible refine gN "_law_before" ?_); refine we_nm 5 rfl rfl ?_)
  | ((with_reducible refine gN "_law_told" ?_); refine we_nm 6 rfl rfl ?_)
  | ((with_reducible refine gN "_law_script" ?_); refine we_nm 0 rfl rfl ?_))
  | `(tactic| walk_at "t") => `(tactic| first
  | ((with_reducible show WS _ _ (Stmt.Assign [Expr.Name _ _] _ _) _ _ _); walk_at "tS")
  | ((with_reducible show WG _ _ (Expr.Name _ _) _ _ _ _); walk_at "tG")
  | ((with_reducible show WS _ _ (Stmt.Assign [Expr.Tuple _ _ _] _ _) _ _ _); refine ws_asg ?_))
  | `(tactic| walk_at "c") => `(tactic| first
  | ((with_reducible refine gCK "_law_alike" ?_); refine we_cl "_law_alike" ?_)
  | ((with_reducible refine gCK "_law_asked" ?_); refine we_cl "_law_asked" ?_)
  | ((with_reducible refine gCK "_law_state" ?_); refine we_cl "_law_state" ?_)
  | ((with_reducible refine gCK "_law_bag" ?_); refine we_cl "_law_bag" ?_)
  | ((with_reducible refine gCK "_law_right" ?_); refine we_cl "_law_right" ?_)
  | ((with_reducible refine gCK "_law_draw" ?_); refine we_cl "_law_draw" ?_))
  | `(tactic| walk_at "eWECall") => `(tactic| ((with_reducible show WE _ _ (Expr.Call (Expr.Name "len" _) [Expr.Name "_law_notebook" _] [] _) _ _ _); refine we_ln (by assumption) (by walk_at "r") rfl (by assumption) (by decide +kernel) ?_))
theorem fn_law {f : Addr} {fd : FuncData} {C CR CL' CP CI CN : Addr} (b_len : mg "len" = none) (b_range : mg "range" = none) (d_bag : FD P w K mg base 1 "_law_bag" 1 TBag) (d_draw : FD P w K mg base 2 "_law_draw" 2 TDraw) (d_alike : FD P w K mg base 4 "_law_alike" 2 (TAlk 3)) (d_state : FD P w K mg base 3 "_law_state" 1 (TState C))
    (d_asked : FD P w K mg base 4 "_law_asked" 4 (TAsk C CR CL' CP CI CN)) (d_right : FD P w K mg base 5 "_law_right" 1 TRightN) (mk : FMk P w K mg base 1 "Notebook" C (TInit C)) (p_book : FPr P w K mg base 1 C "book" (TBkP C)) (l_len : FLn P w K mg base 1 C (TNbLen C))
    (d_tell : FM P w K mg base 3 C "tell" 3 (TTell C CR CL')) (d_forget : FM P w K mg base 1 C "forget" 2 (TForget C CP)) (d_undo_to : FM P w K mg base 1 C "undo_to" 2 (TUndoTo C CI)) (d_undo : FM P w K mg base 1 C "undo" 1 (TUndo C CN))
    (Fn : L2.Fun K "law" "law" st_law f fd) : FnOk P w K mg base (L2.CX P w) 6 f fd ["_law_script"] (spG K TLaw) := by
  refine fn_ok Fn sc_law rfl TLaw_len ?_
  intro cdv A outer s H E N hr ds M Q X' h
  obtain ⟨ns, rfl, hns, q⟩ := h
  show WB _ _ _ [some _, none, none, none, none, none, none] _ _
  refine wb_cons ?_
  walk_at "g"
  refine ⟨ns, rfl, by omega, fun b L hL => ?_⟩
  refine wb_cons ?_
  refine ws_for N (wi_range1 rfl (by assumption) ?_)
  walk_at "g"
  refine ⟨by decide, by decide, fun j δ' M' => ∃ (x2 : Option D) (rest : Cells) (L' : List D), δ' = [some (.lst (ns.map D.int)), some (.cel b), x2, none, none, none, none] ∧ M' = rest ++ (b, .lst L') :: M ∧ BagL L', ?_, fun _ _ _ _ _ => trivial, ?_, ?_⟩
  · exact ⟨_, [], L, rfl, rfl, hL⟩
  · rintro j d δ' M' hd ⟨x2, rest, L0, rfl, rfl, hL0⟩
    obtain ⟨hj, rfl⟩ := rangeD_inv hd
    walk_at "s"
    refine wb_drop (List.sublist_append_right _ _) ?_
    walk_at "g"
    refine ⟨b, rfl, cl_0 ⟨hL0, fun L2 rest2 hL2 => ?_⟩⟩
    walk_at "g"
    exact ⟨_, rest2, L2, rfl, rfl, hL2⟩
  rintro δ' M' ⟨x2, rest, L0, rfl, rfl, hL0⟩
  refine wb_drop (List.sublist_append_right _ _) ?_
  walk_at "g"
  intro a dx
  refine ⟨a, 0, dx, rfl, rfl, rfl, ?_⟩
  walk_at "g"
  refine ws_for N (wi_range1 rfl (by assumption) ?_)
  walk_at "g"
  refine ⟨by decide, by decide, fun j δ' M' => ∃ (x4 : Option D) (ss : List Bk), δ' = [some (.lst (ns.map D.int)), some (.cel b), x2, some (.cel a), x4, none, none] ∧ M' = (a, Cell.ins C dx (NbF ss)) :: (b, .lst L0) :: M ∧ StOk ss ∧ ss.length = j + 1 ∧ ss.take 1 = [[]] ∧ Lin 7 0 (cntL j) (lastB ss), ?_, fun _ _ _ _ _ => trivial, ?_, ?_⟩
  · exact ⟨_, [[]], rfl, rfl, .one, rfl, rfl, ⟨.nil, .nil⟩⟩
  · rintro j d δ' M' hd ⟨x4, ss, rfl, rfl, ho, hln, h1, hl⟩
    obtain ⟨hj, rfl⟩ := rangeD_inv hd
    have hj : j < 24 := hj
    have hnew : (0 : Int) + (j : Nat) ∉ cntL j := fun h => by have := cntL_mem.mp h; omega
    have hk : NbAt C ((a, Cell.ins C dx (NbF ss)) :: (b, .lst L0) :: M) a 0 dx ss := rfl
    walk_at "g"
    refine ⟨a, 0, dx, _, rfl, rfl, rfl, ?_⟩
    walk_at "g"
    rw [show (7 : Int) * (0 + (j : Nat)) = 7 * (0 + (j : Nat)) + 0 by omega]
    refine tell_new hk ho (fun z => hnew ((hl.pl _).mp z)) (hl.unfit _) (by rw [hl.len, cntL_len]; omega) fun b' hp _ => ?_
    walk_at "g"
    have hl' := hl.snoc hnew hp
    rw [← cntL_succ] at hl'
    refine ⟨_, ss ++ [b'], rfl, rfl, ho.snoc (by rw [hl'.len, cntL_len]; omega) (by omega), by rw [List.length_append, List.length_singleton]; omega, by rw [List.take_append_of_le_length (by omega)]; exact h1, by rw [lastB_snoc]; exact hl'⟩
    all_goals exact IntMulOk.of_left (by decide)
  rintro δ' M' ⟨x4, ss, rfl, rfl, ho, hln, h1, hl⟩
  have hln : ss.length = 25 := hln
  have hl : Lin 7 0 (cntL 24) (lastB ss) := hl
  have hk : ∀ L, NbAt C ((a, Cell.ins C dx (NbF ss)) :: (b, .lst L) :: M) a 0 dx ss := fun L => rfl
  have h24 : (24 : Int) ∉ cntL 24 := fun h => by have := (cntL_mem.mp h).2; omega
  walk_at "g"
  refine ⟨a, 0, dx, ss, rfl, hk _, ho, ?_⟩
  walk_at "g"
  refine we_lst ?_
  walk_at "g"
  refine ask_full (hk _) ho (fun z => h24 ((hl.pl _).mp z)) (hl.unfit 24) (by rw [hl.len, cntL_len]) ?_
  walk_at "g"
  refine ask_clash (hk _) ho (fun z => h24 (hl.mem.mp z).1) (.inr fun e => ?_) ?_
  · have hin : (0, 0) ∈ lastB ss := hl.mem.mpr ⟨cntL_mem.mpr ⟨by decide, by decide⟩, rfl⟩
    have hm : (0 : Int) ∈ unfitL (lastB ss) (24, 169) := List.mem_map.mpr ⟨_, List.mem_filter.mpr ⟨hin, by rw [decide_eq_false (fun hf : Fit (0, 0) (24, 169) => absurd (show (-24 : Int) ∣ -169 from hf) (by decide))]; rfl⟩, rfl⟩
    rw [e] at hm
    cases hm
  walk_at "g"
  refine ask_clash (hk _) ho (fun z => absurd (hl.mem.mp z).2 (by decide)) (.inl ((hl.pl 3).mpr (cntL_mem.mpr ⟨by decide, by decide⟩))) ?_
  walk_at "g"
  refine we_lst ?_
  walk_at "g"
  refine ⟨_, _, rfl, alk_l .l .l (by show 3 ≤ 1000000; decide) (.cons (.int _) (.cons (.int _) (.cons (.int _) .nil))), ?_⟩
  walk_at "g"
  refine ⟨a, 0, dx, ss, rfl, hk _, ho, ?_⟩
  walk_at "g"
  refine ⟨_, _, rfl, alk_state ho, ?_⟩
  walk_at "g"
  refine ws_for N (wi_range1 rfl (by assumption) ?_)
  walk_at "g"
  refine ⟨by decide, by decide, fun j δ' M' => ∃ (x4 x6 : Option D) (zs : List Bk) (xs : List Int), δ' = [some (.lst (ns.map D.int)), some (.cel b), x2, some (.cel a), x4, some (stateD ss), x6] ∧ M' = (a, Cell.ins C dx (NbF zs)) :: (b, .lst L0) :: M ∧ StOk zs ∧ zs.length = 25 + 2 * j ∧ zs.take 25 = ss ∧ Lin 7 0 xs (lastB zs) ∧ xs.length = 24 ∧ ∀ z, z ∈ xs ↔ z ∈ cntL 24, ?_, fun _ _ _ _ _ => trivial, ?_, ?_⟩
  · exact ⟨_, _, ss, cntL 24, rfl, rfl, ho, hln, List.take_of_length_le (by omega), hl, cntL_len 24, fun z => Iff.rfl⟩
  · rintro j d δ' M' hd ⟨x4, x6, zs, xs, rfl, rfl, hoz, hlz, ht, hlx, hxl, hxm⟩
    obtain ⟨hj, rfl⟩ := rangeD_inv hd
    have hj : j < 60 := hj
    have hkz : NbAt C ((a, Cell.ins C dx (NbF zs)) :: (b, .lst L0) :: M) a 0 dx zs := rfl
    walk_at "g"
    refine ⟨a, 0, dx, _, rfl, rfl, rfl, ?_⟩
    walk_at "g"
    have hx : (0 + (j : Int)) / 3 ∈ xs := (hxm _).mpr (cntL_mem.mpr (by omega))
    generalize hxe : (0 + (j : Int)) / 3 = x at hx
    have hld := hlx.drop x
    have hod : (dropP x (lastB zs)).length ≤ 24 := by rw [hld.len]; exact Nat.le_trans (List.length_filter_le _ _) (by omega)
    have hnx : x ∉ xs.filter fun z => !decide (z = x) := fun h => by
      have := (List.mem_filter.mp h).2
      simp at this
    have hlt : (dropP x (lastB zs)).length ≠ 24 := fun e => hlx.drop_yes hx (by rw [e, hlx.len, hxl])
    refine forget_yes hkz hoz (hlx.drop_yes hx) ?_
    have ho1 : StOk (zs ++ [dropP x (lastB zs)]) := hoz.snoc hod (by omega)
    have hk1 : NbAt C ((a, Cell.ins C dx (NbF (zs ++ [dropP x (lastB zs)]))) :: (b, .lst L0) :: M) a 0 dx (zs ++ [dropP x (lastB zs)]) := rfl
    walk_at "g"
    refine ⟨a, 0, dx, _, rfl, rfl, rfl, ?_⟩
    walk_at "g"
    rw [hxe, show (7 : Int) * x = 7 * x + 0 by omega]
    refine tell_new hk1 ho1 (by rw [lastB_snoc]; exact fun z => hnx ((hld.pl _).mp z)) (by rw [lastB_snoc]; exact hld.unfit _) (by rw [lastB_snoc]; exact hlt) fun b' hp _ => ?_
    rw [lastB_snoc] at hp
    walk_at "g"
    have hl' := hld.snoc hnx hp
    have hfl : (xs.filter fun z => !decide (z = x)).length + 1 = 24 := by
      have e1 : (xs.filter fun z => !decide (z = x)) = xs.erase x := by
        rw [hlx.nd.erase_eq_filter]
        refine List.filter_congr fun z _ => ?_
        by_cases e : z = x
        · subst e; simp
        · simp [e]
      rw [e1, List.length_erase_of_mem hx, hxl]
    refine ⟨_, _, zs ++ [dropP x (lastB zs)] ++ [b'], _, rfl, rfl, ho1.snoc (by rw [hl'.len, List.length_append, List.length_singleton]; omega) (by rw [List.length_append, List.length_singleton]; omega), by simp only [List.length_append, List.length_singleton]; omega,
      by rw [List.append_assoc, List.take_append_of_le_length (by omega)]; exact ht, by rw [lastB_snoc]; exact hl', by rw [List.length_append, List.length_singleton]; exact hfl, fun z => ?_⟩
    · rw [← hxm z, List.mem_append, List.mem_filter, List.mem_singleton]
      by_cases e : z = x
      · subst e; exact ⟨fun _ => hx, fun _ => .inr rfl⟩
      · simp [e]
    all_goals first | exact IntMulOk.of_left (by decide) | exact ⟨by decide, by decide⟩
  rintro δ' M' ⟨x4, x6, zs, xs, rfl, rfl, hoz, hlz, ht, hlx, hxl, hxm⟩
  have hlz : zs.length = 145 := hlz
  have hkz : NbAt C ((a, Cell.ins C dx (NbF zs)) :: (b, .lst L0) :: M) a 0 dx zs := rfl
  walk_at "g"
  refine ⟨a, 0, dx, _, rfl, rfl, rfl, ?_⟩
  walk_at "g"
  refine to_yes hkz hoz (by decide) (by omega) ?_
  rw [show (24 : Int).toNat + 1 = 25 from rfl, ht]
  walk_at "g"
  refine ⟨a, 0, dx, ss, rfl, rfl, ho, ?_⟩
  walk_at "g"
  refine ⟨_, _, rfl, alk_state ho, ?_⟩
  walk_at "g"
  refine ws_for N (wi_range1 rfl (by assumption) ?_)
  walk_at "g"
  show TDraw _ ((a, Cell.ins C dx (NbF ss)) :: (b, .lst L0) :: M) _ _
  refine tdraw (by decide) (by decide) (cl_skip (cl_0 ⟨hL0, fun r L1 h0 h1' hL1 => ?_⟩))
  walk_at "g"
  obtain ⟨n, hn⟩ : ∃ n : Nat, (n : Int) = 9 * r := ⟨(9 * r).toNat, by omega⟩
  have hn9 : n ≤ 9 := by omega
  have hln2 : ∀ j, j ≤ 9 → (ss.take (25 - j)).length = 25 - j := fun j hj => by rw [List.length_take]; omega
  rw [← hn]
  refine ⟨by omega, by omega, fun j δ' M' => ∃ (x4 : Option D), δ' = [some (.lst (ns.map D.int)), some (.cel b), x2, some (.cel a), x4, some (stateD ss), x6] ∧ M' = (a, Cell.ins C dx (NbF (ss.take (25 - j)))) :: (b, .lst L1) :: M, ?_, fun _ _ _ _ _ => trivial, ?_, ?_⟩
  · exact ⟨_, rfl, by rw [List.take_of_length_le (by omega)]⟩
  · rintro j d δ' M' hd ⟨x4, rfl, rfl⟩
    obtain ⟨hj, rfl⟩ := rangeD_inv hd
    have hj : j < n := by omega
    walk_at "g"
    refine ⟨a, 0, dx, _, rfl, rfl, rfl, a, 0, dx, ss.take (25 - j), rfl, rfl, ho.take (by omega), fun z => ?_, fun _ => ?_⟩
    · rw [hln2 j (by omega)] at z; omega
    walk_at "g"
    refine ⟨_, rfl, ?_⟩
    rw [hln2 j (by omega), List.take_take, show min (25 - j - 1) (25 - j) = 25 - (j + 1) by omega]
    rfl
  rintro δ' M' ⟨x4, rfl, rfl⟩
  rw [rangeD_len, show ((n : Nat) : Int).toNat = n by omega]
  have hk3 : NbAt C ((a, Cell.ins C dx (NbF (ss.take (25 - n)))) :: (b, .lst L1) :: M) a 0 dx (ss.take (25 - n)) := rfl
  have hk4 : NbAt C ((a, Cell.ins C dx (NbF [[]])) :: (b, .lst L1) :: M) a 0 dx [[]] := rfl
  walk_at "g"
  refine we_lst ?_
  walk_at "g"
  refine ⟨a, 0, dx, _, rfl, rfl, rfl, ?_⟩
  walk_at "g"
  refine to_yes hk3 (ho.take (by omega)) (by decide) (by rw [hln2 n hn9]; omega) ?_
  rw [show (0 : Int).toNat + 1 = 1 from rfl, List.take_take, show min 1 (25 - n) = 1 by omega, h1]
  walk_at "g"
  refine ⟨a, 0, dx, _, rfl, rfl, a, 0, dx, [[]], rfl, hk4, .one, _, rfl, by decide, by decide, ?_⟩
  walk_at "g"
  refine ⟨a, 0, dx, _, rfl, rfl, a, 0, dx, [[]], rfl, hk4, .one, fun p => ?_⟩
  walk_at "g"
  refine ask_undo_no (k := 1) (dx := dx) (ss := [[]]) rfl .one rfl ?_
  walk_at "g"
  refine we_lst ?_
  walk_at "g"
  refine we_lst ?_
  walk_at "g"
  refine ⟨_, _, rfl, alk_l .l .l (by show 4 ≤ 1000000; decide) (.cons .non (.cons (.int _) (.cons (alk_book (zs := []) (.c 0 rfl) .l (by decide)) (.cons (.int _) .nil)))), ?_⟩
  exact q _
  all_goals exact IntMulOk.of_left (by decide)
end
/-! NbEnd -/
theorem law_sp {K : PySem.W.Frag} {H : Hp} {a : Addr} {ns : List Int} (hl : ns.length ≤ 63) (hS : SqL K H a (ns.map V.int)) : spG K TLaw [.ref a] H (fun v _ => v = .bl true) fun _ _ _ => False :=
  ⟨H, [], [.lst (ns.map D.int)], { le := Same.refl _, nd := List.Pairwise.nil, cell := (fun _ h => nomatch h), out := (fun _ h => nomatch h), slot := (fun _ _ h => nomatch h), dlen := rfl }, .cons (.lst hS (Reps.ints ns)) .nil, ns, rfl, hl, fun M' v F' H' _ _ r => by cases r; rfl⟩
theorem refs_one (a : Addr) : PySem.HandSPX.refsVE [.ref a, .type "ValueError", .type "Exception", .type "BaseException", .type "object"] = true := by
  show PySem.HandSPX.refsVE [.type "ValueError", .type "Exception", .type "BaseException", .type "object"] = true
  decide +kernel
theorem exm_self {K : PySem.W.Frag} {S : Addr} (h1 : PySem.W.subIn K (.ref S) (.type "BaseException") = some true) (h2 : PySem.W.isClsIn K S = true) (h3 : PySem.W.typeIn K (.ref S) = some (.type "type")) (h4 : PySem.W.subIn K (.ref S) (.ref S) = some true) :
    PySem.W.exmOne K (.ref S) (.ref S) = some true := by
  have e1 : (PySem.W.subIn K (.ref S) (.type "BaseException") == some true) = true := by rw [h1] <;> rfl
  have e2 : ((PySem.W.clsIn K S).isSome && PySem.W.typeIn K (.ref S) == some (.type "type")) = true := by
    have h2' : (PySem.W.clsIn K S).isSome = true := h2
    rw [h2', h3] <;> rfl
  show (if (PySem.W.subIn K (.ref S) (.type "BaseException") == some true) = true then (if ((PySem.W.clsIn K S).isSome && PySem.W.typeIn K (.ref S) == some (.type "type")) = true then PySem.W.subIn K (.ref S) (.ref S) else none) else none) = some true
  rw [if_pos e1, if_pos e2]
  exact h4
theorem exm_gen {K : PySem.W.Frag} {S R : Addr} {b : Bool} (h1 : PySem.W.subIn K (.ref S) (.type "BaseException") = some true) (h2 : PySem.W.isClsIn K S = true) (h3 : PySem.W.typeIn K (.ref S) = some (.type "type")) (h4 : PySem.W.subIn K (.ref R) (.ref S) = some b) :
    PySem.W.exmOne K (.ref R) (.ref S) = some b := by
  have e1 : (PySem.W.subIn K (.ref S) (.type "BaseException") == some true) = true := by rw [h1] <;> rfl
  have e2 : ((PySem.W.clsIn K S).isSome && PySem.W.typeIn K (.ref S) == some (.type "type")) = true := by
    have h2' : (PySem.W.clsIn K S).isSome = true := h2
    rw [h2', h3] <;> rfl
  show (if (PySem.W.subIn K (.ref S) (.type "BaseException") == some true) = true then (if ((PySem.W.clsIn K S).isSome && PySem.W.typeIn K (.ref S) == some (.type "type")) = true then PySem.W.subIn K (.ref R) (.ref S) else none) else none) = some b
  rw [if_pos e1, if_pos e2]
  exact h4
theorem top_all {l : PySem.W.OpenLaw} {w : World} {K : PySem.W.Frag} {h : Heap} {mg : Str → Option Value} {fa f_divides f_do_fit f_l_bag f_l_stirred f_l_draw f_l_alike f_l_asked f_l_state f_l_right f_law : Addr} (X : K.In h) (G : h.Ns mainGlobals mg) (hfa : mg "law" = some (.ref fa))
    {od_divides an_divides : Option Addr} {sl_divides : Array (Option Value)} {oc_divides kV_divides dc_divides pm_divides cd_divides ct_divides : Value}
    {od_do_fit an_do_fit : Option Addr} {sl_do_fit : Array (Option Value)} {oc_do_fit kV_do_fit dc_do_fit pm_do_fit cd_do_fit ct_do_fit : Value}
    {od_l_bag an_l_bag : Option Addr} {sl_l_bag : Array (Option Value)} {oc_l_bag kV_l_bag dc_l_bag pm_l_bag cd_l_bag ct_l_bag : Value}
    {od_l_stirred an_l_stirred : Option Addr} {sl_l_stirred : Array (Option Value)} {oc_l_stirred kV_l_stirred dc_l_stirred pm_l_stirred cd_l_stirred ct_l_stirred : Value}
    {od_l_draw an_l_draw : Option Addr} {sl_l_draw : Array (Option Value)} {oc_l_draw kV_l_draw dc_l_draw pm_l_draw cd_l_draw ct_l_draw : Value}
    {od_l_alike an_l_alike : Option Addr} {sl_l_alike : Array (Option Value)} {oc_l_alike kV_l_alike dc_l_alike pm_l_alike cd_l_alike ct_l_alike : Value}
    {od_l_asked an_l_asked : Option Addr} {sl_l_asked : Array (Option Value)} {oc_l_asked kV_l_asked dc_l_asked pm_l_asked cd_l_asked ct_l_asked : Value}
    {od_l_state an_l_state : Option Addr} {sl_l_state : Array (Option Value)} {oc_l_state kV_l_state dc_l_state pm_l_state cd_l_state ct_l_state : Value}
    {od_l_right an_l_right : Option Addr} {sl_l_right : Array (Option Value)} {oc_l_right kV_l_right dc_l_right pm_l_right cd_l_right ct_l_right : Value}
    {od_law an_law : Option Addr} {sl_law : Array (Option Value)} {oc_law kV_law dc_law pm_law cd_law ct_law : Value}
    {fB : Addr} (aB : PySem.W.nsIn K mainGlobals "RestError" = some (some (.ref fB))) (sB : PySem.W.specialIn K (.ref fB) "__getattribute__" = some (some (.builtin "type.__getattribute__"))) (rB : PySem.W.readsIn K fB (.type "type") = true) (vB : PySem.W.findCls K (.ref fB) (.type "type") "__init__" = some (.val (.builtin "ValueError.__init__")))
    {C_Refused fI_Refused : Addr} {nm_Refused qn_Refused : Str} {N_Refused : Addr} {bs_Refused sub_Refused : List Value} {sn_Refused : List Str} {ab_Refused : Bool} {col_Refused : Option Bool} {dd_Refused : Option Addr} {m0_Refused m1_Refused m2_Refused m3_Refused m5_Refused : Option Value} {odI_Refused anI_Refused : Option Addr} {slI_Refused : Array (Option Value)} {ocI_Refused kVI_Refused dcI_Refused pmI_Refused cdI_Refused ctI_Refused : Value}
    (aC_Refused : PySem.W.nsIn K mainGlobals "Refused" = some (some (.ref C_Refused))) (xL_Refused : K.lookup C_Refused = some (excClassObj nm_Refused qn_Refused C_Refused N_Refused bs_Refused [.ref fB, .type "ValueError", .type "Exception", .type "BaseException", .type "object"] true sn_Refused sub_Refused ab_Refused col_Refused dd_Refused m0_Refused m1_Refused m2_Refused m3_Refused m5_Refused "ValueError.__new__"))
    (sa_Refused : PySem.W.findIn K (.ref C_Refused) "__setattr__" = some (some (.builtin "object.__setattr__"))) (ga_Refused : PySem.W.findIn K (.ref C_Refused) "__getattribute__" = some (some (.builtin "BaseException.__getattribute__"))) (gg_Refused : PySem.W.findIn K (.ref C_Refused) "__getattr__" = some none)
    (nf0_Refused : PySem.W.findIn K (.ref C_Refused) "place" = some none)
    (iC_Refused : PySem.W.findIn K (.ref C_Refused) "__init__" = some (some (.ref fI_Refused))) (tI_Refused : PySem.W.typeIn K (.ref fI_Refused) = some (.type "function"))
    (lI_Refused : K.lookup fI_Refused = some ⟨ocI_Refused, odI_Refused, .func (PySem.W.fnOf "__init__" "Refused.__init__" (defArgs st_Refused___init__) (defBody st_Refused___init__) (defScope st_Refused___init__) .none kVI_Refused dcI_Refused pmI_Refused anI_Refused cdI_Refused ctI_Refused), slI_Refused⟩) (cI_Refused : PySem.W.codeIn K cdI_Refused "Refused.__init__" = true) (kI_Refused : PySem.W.keepIn K (.ref fI_Refused) = true)
    (kC_Refused : PySem.W.keepIn K (.ref C_Refused) = true) (eC_Refused : PySem.W.subIn K (.ref C_Refused) (.type "BaseException") = some true) (tC_Refused : PySem.W.typeIn K (.ref C_Refused) = some (.type "type")) (hC_Refused : PySem.W.hasDictIn K C_Refused = true) (isC_Refused : PySem.W.isClsIn K C_Refused = true) (sC_Refused : PySem.W.subIn K (.ref C_Refused) (.ref C_Refused) = some true)
    {C_TooLarge : Addr} (aC_TooLarge : PySem.W.nsIn K mainGlobals "TooLarge" = some (some (.ref C_TooLarge))) (qC_TooLarge : PySem.W.excIn K C_TooLarge [.type "ValueError", .type "Exception", .type "BaseException", .type "object"] "ValueError.__new__" = true) (kC_TooLarge : PySem.W.keepIn K (.ref C_TooLarge) = true) (eC_TooLarge : PySem.W.subIn K (.ref C_TooLarge) (.type "BaseException") = some true) (tC_TooLarge : PySem.W.typeIn K (.ref C_TooLarge) = some (.type "type")) (isC_TooLarge : PySem.W.isClsIn K C_TooLarge = true) (sC_TooLarge : PySem.W.subIn K (.ref C_TooLarge) (.ref C_TooLarge) = some true)
    {C_InvalidPlace : Addr} (aC_InvalidPlace : PySem.W.nsIn K mainGlobals "InvalidPlace" = some (some (.ref C_InvalidPlace))) (qC_InvalidPlace : PySem.W.excIn K C_InvalidPlace [.type "ValueError", .type "Exception", .type "BaseException", .type "object"] "ValueError.__new__" = true) (kC_InvalidPlace : PySem.W.keepIn K (.ref C_InvalidPlace) = true) (eC_InvalidPlace : PySem.W.subIn K (.ref C_InvalidPlace) (.type "BaseException") = some true) (tC_InvalidPlace : PySem.W.typeIn K (.ref C_InvalidPlace) = some (.type "type")) (isC_InvalidPlace : PySem.W.isClsIn K C_InvalidPlace = true) (sC_InvalidPlace : PySem.W.subIn K (.ref C_InvalidPlace) (.ref C_InvalidPlace) = some true)
    {C_InvalidIndex : Addr} (aC_InvalidIndex : PySem.W.nsIn K mainGlobals "InvalidIndex" = some (some (.ref C_InvalidIndex))) (qC_InvalidIndex : PySem.W.excIn K C_InvalidIndex [.type "ValueError", .type "Exception", .type "BaseException", .type "object"] "ValueError.__new__" = true) (kC_InvalidIndex : PySem.W.keepIn K (.ref C_InvalidIndex) = true) (eC_InvalidIndex : PySem.W.subIn K (.ref C_InvalidIndex) (.type "BaseException") = some true) (tC_InvalidIndex : PySem.W.typeIn K (.ref C_InvalidIndex) = some (.type "type")) (isC_InvalidIndex : PySem.W.isClsIn K C_InvalidIndex = true) (sC_InvalidIndex : PySem.W.subIn K (.ref C_InvalidIndex) (.ref C_InvalidIndex) = some true)
    {C_NothingToUndo : Addr} (aC_NothingToUndo : PySem.W.nsIn K mainGlobals "NothingToUndo" = some (some (.ref C_NothingToUndo))) (qC_NothingToUndo : PySem.W.excIn K C_NothingToUndo [.type "ValueError", .type "Exception", .type "BaseException", .type "object"] "ValueError.__new__" = true) (kC_NothingToUndo : PySem.W.keepIn K (.ref C_NothingToUndo) = true) (eC_NothingToUndo : PySem.W.subIn K (.ref C_NothingToUndo) (.type "BaseException") = some true) (tC_NothingToUndo : PySem.W.typeIn K (.ref C_NothingToUndo) = some (.type "type")) (isC_NothingToUndo : PySem.W.isClsIn K C_NothingToUndo = true) (sC_NothingToUndo : PySem.W.subIn K (.ref C_NothingToUndo) (.ref C_NothingToUndo) = some true)
    (a_divides : PySem.W.nsIn K mainGlobals "divides" = some (some (.ref f_divides))) (l_divides : K.lookup f_divides = some ⟨oc_divides, od_divides, .func (PySem.W.fnOf "divides" "divides" (defArgs st_divides) (defBody st_divides) (defScope st_divides) .none kV_divides dc_divides pm_divides an_divides cd_divides ct_divides), sl_divides⟩) (c_divides : PySem.W.codeIn K cd_divides "divides" = true) (k_divides : PySem.W.keepIn K (.ref f_divides) = true)
    (a_do_fit : PySem.W.nsIn K mainGlobals "do_fit" = some (some (.ref f_do_fit))) (l_do_fit : K.lookup f_do_fit = some ⟨oc_do_fit, od_do_fit, .func (PySem.W.fnOf "do_fit" "do_fit" (defArgs st_do_fit) (defBody st_do_fit) (defScope st_do_fit) .none kV_do_fit dc_do_fit pm_do_fit an_do_fit cd_do_fit ct_do_fit), sl_do_fit⟩) (c_do_fit : PySem.W.codeIn K cd_do_fit "do_fit" = true) (k_do_fit : PySem.W.keepIn K (.ref f_do_fit) = true)
    (a_l_bag : PySem.W.nsIn K mainGlobals "_law_bag" = some (some (.ref f_l_bag))) (l_l_bag : K.lookup f_l_bag = some ⟨oc_l_bag, od_l_bag, .func (PySem.W.fnOf "_law_bag" "_law_bag" (defArgs st_l_bag) (defBody st_l_bag) (defScope st_l_bag) .none kV_l_bag dc_l_bag pm_l_bag an_l_bag cd_l_bag ct_l_bag), sl_l_bag⟩) (c_l_bag : PySem.W.codeIn K cd_l_bag "_law_bag" = true) (k_l_bag : PySem.W.keepIn K (.ref f_l_bag) = true)
    (a_l_stirred : PySem.W.nsIn K mainGlobals "_law_stirred" = some (some (.ref f_l_stirred))) (l_l_stirred : K.lookup f_l_stirred = some ⟨oc_l_stirred, od_l_stirred, .func (PySem.W.fnOf "_law_stirred" "_law_stirred" (defArgs st_l_stirred) (defBody st_l_stirred) (defScope st_l_stirred) .none kV_l_stirred dc_l_stirred pm_l_stirred an_l_stirred cd_l_stirred ct_l_stirred), sl_l_stirred⟩) (c_l_stirred : PySem.W.codeIn K cd_l_stirred "_law_stirred" = true) (k_l_stirred : PySem.W.keepIn K (.ref f_l_stirred) = true)
    (a_l_draw : PySem.W.nsIn K mainGlobals "_law_draw" = some (some (.ref f_l_draw))) (l_l_draw : K.lookup f_l_draw = some ⟨oc_l_draw, od_l_draw, .func (PySem.W.fnOf "_law_draw" "_law_draw" (defArgs st_l_draw) (defBody st_l_draw) (defScope st_l_draw) .none kV_l_draw dc_l_draw pm_l_draw an_l_draw cd_l_draw ct_l_draw), sl_l_draw⟩) (c_l_draw : PySem.W.codeIn K cd_l_draw "_law_draw" = true) (k_l_draw : PySem.W.keepIn K (.ref f_l_draw) = true)
    (a_l_alike : PySem.W.nsIn K mainGlobals "_law_alike" = some (some (.ref f_l_alike))) (l_l_alike : K.lookup f_l_alike = some ⟨oc_l_alike, od_l_alike, .func (PySem.W.fnOf "_law_alike" "_law_alike" (defArgs st_l_alike) (defBody st_l_alike) (defScope st_l_alike) .none kV_l_alike dc_l_alike pm_l_alike an_l_alike cd_l_alike ct_l_alike), sl_l_alike⟩) (c_l_alike : PySem.W.codeIn K cd_l_alike "_law_alike" = true) (k_l_alike : PySem.W.keepIn K (.ref f_l_alike) = true)
    (a_l_asked : PySem.W.nsIn K mainGlobals "_law_asked" = some (some (.ref f_l_asked))) (l_l_asked : K.lookup f_l_asked = some ⟨oc_l_asked, od_l_asked, .func (PySem.W.fnOf "_law_asked" "_law_asked" (defArgs st_l_asked) (defBody st_l_asked) (defScope st_l_asked) .none kV_l_asked dc_l_asked pm_l_asked an_l_asked cd_l_asked ct_l_asked), sl_l_asked⟩) (c_l_asked : PySem.W.codeIn K cd_l_asked "_law_asked" = true) (k_l_asked : PySem.W.keepIn K (.ref f_l_asked) = true)
    (a_l_state : PySem.W.nsIn K mainGlobals "_law_state" = some (some (.ref f_l_state))) (l_l_state : K.lookup f_l_state = some ⟨oc_l_state, od_l_state, .func (PySem.W.fnOf "_law_state" "_law_state" (defArgs st_l_state) (defBody st_l_state) (defScope st_l_state) .none kV_l_state dc_l_state pm_l_state an_l_state cd_l_state ct_l_state), sl_l_state⟩) (c_l_state : PySem.W.codeIn K cd_l_state "_law_state" = true) (k_l_state : PySem.W.keepIn K (.ref f_l_state) = true)
    (a_l_right : PySem.W.nsIn K mainGlobals "_law_right" = some (some (.ref f_l_right))) (l_l_right : K.lookup f_l_right = some ⟨oc_l_right, od_l_right, .func (PySem.W.fnOf "_law_right" "_law_right" (defArgs st_l_right) (defBody st_l_right) (defScope st_l_right) .none kV_l_right dc_l_right pm_l_right an_l_right cd_l_right ct_l_right), sl_l_right⟩) (c_l_right : PySem.W.codeIn K cd_l_right "_law_right" = true) (k_l_right : PySem.W.keepIn K (.ref f_l_right) = true)
    (a_law : PySem.W.nsIn K mainGlobals "law" = some (some (.ref f_law))) (l_law : K.lookup f_law = some ⟨oc_law, od_law, .func (PySem.W.fnOf "law" "law" (defArgs st_law) (defBody st_law) (defScope st_law) .none kV_law dc_law pm_law an_law cd_law ct_law), sl_law⟩) (c_law : PySem.W.codeIn K cd_law "law" = true) (k_law : PySem.W.keepIn K (.ref f_law) = true)
    {C_Notebook : Addr} (aC_Notebook : PySem.W.nsIn K mainGlobals "Notebook" = some (some (.ref C_Notebook))) (opg_Notebook : PySem.W.plainGet K C_Notebook Str.empty = true) (ohd_Notebook : PySem.W.hasDictIn K C_Notebook = true) (opo_Notebook : PySem.W.plainOver K C_Notebook = true) (osa_Notebook : PySem.W.findIn K (.ref C_Notebook) "__setattr__" = some (some (.builtin "object.__setattr__"))) (omk_Notebook : PySem.W.makesIn K C_Notebook = true) (okc_Notebook : PySem.W.keepIn K (.ref C_Notebook) = true)
    (on0_Notebook : PySem.W.findIn K (.ref C_Notebook) "notebook_states" = some none)
    {f_Notebook___init__ : Addr} {od_Notebook___init__ an_Notebook___init__ : Option Addr} {sl_Notebook___init__ : Array (Option Value)} {oc_Notebook___init__ kV_Notebook___init__ dc_Notebook___init__ pm_Notebook___init__ cd_Notebook___init__ ct_Notebook___init__ : Value}
    (at_Notebook___init__ : PySem.W.findIn K (.ref C_Notebook) "__init__" = some (some (.ref f_Notebook___init__))) (fn_Notebook___init__ : PySem.W.isFn K (.ref f_Notebook___init__) = true)
    (l_Notebook___init__ : K.lookup f_Notebook___init__ = some ⟨oc_Notebook___init__, od_Notebook___init__, .func (PySem.W.fnOf "__init__" "Notebook.__init__" (defArgs st_Notebook___init__) (defBody st_Notebook___init__) (defScope st_Notebook___init__) .none kV_Notebook___init__ dc_Notebook___init__ pm_Notebook___init__ an_Notebook___init__ cd_Notebook___init__ ct_Notebook___init__), sl_Notebook___init__⟩) (c_Notebook___init__ : PySem.W.codeIn K cd_Notebook___init__ "Notebook.__init__" = true) (k_Notebook___init__ : PySem.W.keepIn K (.ref f_Notebook___init__) = true)
    {f_Notebook___len__ : Addr} {od_Notebook___len__ an_Notebook___len__ : Option Addr} {sl_Notebook___len__ : Array (Option Value)} {oc_Notebook___len__ kV_Notebook___len__ dc_Notebook___len__ pm_Notebook___len__ cd_Notebook___len__ ct_Notebook___len__ : Value}
    (at_Notebook___len__ : PySem.W.findIn K (.ref C_Notebook) "__len__" = some (some (.ref f_Notebook___len__))) (fn_Notebook___len__ : PySem.W.isFn K (.ref f_Notebook___len__) = true)
    (l_Notebook___len__ : K.lookup f_Notebook___len__ = some ⟨oc_Notebook___len__, od_Notebook___len__, .func (PySem.W.fnOf "__len__" "Notebook.__len__" (defArgs st_Notebook___len__) (defBody st_Notebook___len__) (defScope st_Notebook___len__) .none kV_Notebook___len__ dc_Notebook___len__ pm_Notebook___len__ an_Notebook___len__ cd_Notebook___len__ ct_Notebook___len__), sl_Notebook___len__⟩) (c_Notebook___len__ : PySem.W.codeIn K cd_Notebook___len__ "Notebook.__len__" = true) (k_Notebook___len__ : PySem.W.keepIn K (.ref f_Notebook___len__) = true)
    {f_Notebook_tell : Addr} {od_Notebook_tell an_Notebook_tell : Option Addr} {sl_Notebook_tell : Array (Option Value)} {oc_Notebook_tell kV_Notebook_tell dc_Notebook_tell pm_Notebook_tell cd_Notebook_tell ct_Notebook_tell : Value}
    (at_Notebook_tell : PySem.W.findIn K (.ref C_Notebook) "tell" = some (some (.ref f_Notebook_tell))) (fn_Notebook_tell : PySem.W.isFn K (.ref f_Notebook_tell) = true)
    (l_Notebook_tell : K.lookup f_Notebook_tell = some ⟨oc_Notebook_tell, od_Notebook_tell, .func (PySem.W.fnOf "tell" "Notebook.tell" (defArgs st_Notebook_tell) (defBody st_Notebook_tell) (defScope st_Notebook_tell) .none kV_Notebook_tell dc_Notebook_tell pm_Notebook_tell an_Notebook_tell cd_Notebook_tell ct_Notebook_tell), sl_Notebook_tell⟩) (c_Notebook_tell : PySem.W.codeIn K cd_Notebook_tell "Notebook.tell" = true) (k_Notebook_tell : PySem.W.keepIn K (.ref f_Notebook_tell) = true)
    {f_Notebook_forget : Addr} {od_Notebook_forget an_Notebook_forget : Option Addr} {sl_Notebook_forget : Array (Option Value)} {oc_Notebook_forget kV_Notebook_forget dc_Notebook_forget pm_Notebook_forget cd_Notebook_forget ct_Notebook_forget : Value}
    (at_Notebook_forget : PySem.W.findIn K (.ref C_Notebook) "forget" = some (some (.ref f_Notebook_forget))) (fn_Notebook_forget : PySem.W.isFn K (.ref f_Notebook_forget) = true)
    (l_Notebook_forget : K.lookup f_Notebook_forget = some ⟨oc_Notebook_forget, od_Notebook_forget, .func (PySem.W.fnOf "forget" "Notebook.forget" (defArgs st_Notebook_forget) (defBody st_Notebook_forget) (defScope st_Notebook_forget) .none kV_Notebook_forget dc_Notebook_forget pm_Notebook_forget an_Notebook_forget cd_Notebook_forget ct_Notebook_forget), sl_Notebook_forget⟩) (c_Notebook_forget : PySem.W.codeIn K cd_Notebook_forget "Notebook.forget" = true) (k_Notebook_forget : PySem.W.keepIn K (.ref f_Notebook_forget) = true)
    {f_Notebook_undo : Addr} {od_Notebook_undo an_Notebook_undo : Option Addr} {sl_Notebook_undo : Array (Option Value)} {oc_Notebook_undo kV_Notebook_undo dc_Notebook_undo pm_Notebook_undo cd_Notebook_undo ct_Notebook_undo : Value}
    (at_Notebook_undo : PySem.W.findIn K (.ref C_Notebook) "undo" = some (some (.ref f_Notebook_undo))) (fn_Notebook_undo : PySem.W.isFn K (.ref f_Notebook_undo) = true)
    (l_Notebook_undo : K.lookup f_Notebook_undo = some ⟨oc_Notebook_undo, od_Notebook_undo, .func (PySem.W.fnOf "undo" "Notebook.undo" (defArgs st_Notebook_undo) (defBody st_Notebook_undo) (defScope st_Notebook_undo) .none kV_Notebook_undo dc_Notebook_undo pm_Notebook_undo an_Notebook_undo cd_Notebook_undo ct_Notebook_undo), sl_Notebook_undo⟩) (c_Notebook_undo : PySem.W.codeIn K cd_Notebook_undo "Notebook.undo" = true) (k_Notebook_undo : PySem.W.keepIn K (.ref f_Notebook_undo) = true)
    {f_Notebook_mark : Addr} {od_Notebook_mark an_Notebook_mark : Option Addr} {sl_Notebook_mark : Array (Option Value)} {oc_Notebook_mark kV_Notebook_mark dc_Notebook_mark pm_Notebook_mark cd_Notebook_mark ct_Notebook_mark : Value}
    (at_Notebook_mark : PySem.W.findIn K (.ref C_Notebook) "mark" = some (some (.ref f_Notebook_mark))) (fn_Notebook_mark : PySem.W.isFn K (.ref f_Notebook_mark) = true)
    (l_Notebook_mark : K.lookup f_Notebook_mark = some ⟨oc_Notebook_mark, od_Notebook_mark, .func (PySem.W.fnOf "mark" "Notebook.mark" (defArgs st_Notebook_mark) (defBody st_Notebook_mark) (defScope st_Notebook_mark) .none kV_Notebook_mark dc_Notebook_mark pm_Notebook_mark an_Notebook_mark cd_Notebook_mark ct_Notebook_mark), sl_Notebook_mark⟩) (c_Notebook_mark : PySem.W.codeIn K cd_Notebook_mark "Notebook.mark" = true) (k_Notebook_mark : PySem.W.keepIn K (.ref f_Notebook_mark) = true)
    {f_Notebook_undo_to : Addr} {od_Notebook_undo_to an_Notebook_undo_to : Option Addr} {sl_Notebook_undo_to : Array (Option Value)} {oc_Notebook_undo_to kV_Notebook_undo_to dc_Notebook_undo_to pm_Notebook_undo_to cd_Notebook_undo_to ct_Notebook_undo_to : Value}
    (at_Notebook_undo_to : PySem.W.findIn K (.ref C_Notebook) "undo_to" = some (some (.ref f_Notebook_undo_to))) (fn_Notebook_undo_to : PySem.W.isFn K (.ref f_Notebook_undo_to) = true)
    (l_Notebook_undo_to : K.lookup f_Notebook_undo_to = some ⟨oc_Notebook_undo_to, od_Notebook_undo_to, .func (PySem.W.fnOf "undo_to" "Notebook.undo_to" (defArgs st_Notebook_undo_to) (defBody st_Notebook_undo_to) (defScope st_Notebook_undo_to) .none kV_Notebook_undo_to dc_Notebook_undo_to pm_Notebook_undo_to an_Notebook_undo_to cd_Notebook_undo_to ct_Notebook_undo_to), sl_Notebook_undo_to⟩) (c_Notebook_undo_to : PySem.W.codeIn K cd_Notebook_undo_to "Notebook.undo_to" = true) (k_Notebook_undo_to : PySem.W.keepIn K (.ref f_Notebook_undo_to) = true)
    {f_Notebook_book : Addr} {od_Notebook_book an_Notebook_book : Option Addr} {sl_Notebook_book : Array (Option Value)} {oc_Notebook_book kV_Notebook_book dc_Notebook_book pm_Notebook_book cd_Notebook_book ct_Notebook_book : Value}
    {pp_Notebook_book : Addr} {rs_Notebook_book : List Value} (pa_Notebook_book : PySem.W.findIn K (.ref C_Notebook) "book" = some (some (.ref pp_Notebook_book))) (pg_Notebook_book : PySem.W.specialIn K (.ref pp_Notebook_book) "__get__" = some (some (.builtin "property.__get__"))) (pt_Notebook_book : PySem.W.takesIn K (.ref pp_Notebook_book) = some true) (pr_Notebook_book : PySem.W.recIn K pp_Notebook_book "property" = some (.ref f_Notebook_book :: rs_Notebook_book))
    (l_Notebook_book : K.lookup f_Notebook_book = some ⟨oc_Notebook_book, od_Notebook_book, .func (PySem.W.fnOf "book" "Notebook.book" (defArgs st_Notebook_book) (defBody st_Notebook_book) (defScope st_Notebook_book) .none kV_Notebook_book dc_Notebook_book pm_Notebook_book an_Notebook_book cd_Notebook_book ct_Notebook_book), sl_Notebook_book⟩) (c_Notebook_book : PySem.W.codeIn K cd_Notebook_book "Notebook.book" = true) (k_Notebook_book : PySem.W.keepIn K (.ref f_Notebook_book) = true)
    (eB : PySem.W.subIn K (.ref fB) (.type "BaseException") = some true) (isB : PySem.W.isClsIn K fB = true) (tB : PySem.W.typeIn K (.ref fB) = some (.type "type")) (kn : PySem.W.specialIn K (.builtin "object.__class__") "__get__" = some (some (.builtin "getset_descriptor.__get__"))) (kq : PySem.W.takesIn K (.builtin "object.__class__") = some true)
    (xg_Refused : PySem.W.findIn K (.ref C_Refused) "__getattribute__" = some (some (.builtin "BaseException.__getattribute__"))) (xk_Refused : PySem.W.findIn K (.ref C_Refused) "__getattr__" = some none) (xd_Refused : PySem.W.hasDictIn K C_Refused = true) (xa_Refused : PySem.W.findIn K (.ref C_Refused) "__class__" = some (some (.builtin "object.__class__"))) (xm_Refused : PySem.W.mroIn K C_Refused (.type "object") = some true) (xb_Refused : PySem.W.subIn K (.ref C_Refused) (.ref fB) = some true)
    (kt_Refused_Refused : PySem.W.kitOne K (.ref C_Refused) (.ref C_Refused) = some true)
    (kt_Refused_TooLarge : PySem.W.kitOne K (.ref C_Refused) (.ref C_TooLarge) = some false)
    (kt_Refused_InvalidPlace : PySem.W.kitOne K (.ref C_Refused) (.ref C_InvalidPlace) = some false)
    (kt_Refused_InvalidIndex : PySem.W.kitOne K (.ref C_Refused) (.ref C_InvalidIndex) = some false)
    (kt_Refused_NothingToUndo : PySem.W.kitOne K (.ref C_Refused) (.ref C_NothingToUndo) = some false)
    (xg_TooLarge : PySem.W.findIn K (.ref C_TooLarge) "__getattribute__" = some (some (.builtin "BaseException.__getattribute__"))) (xk_TooLarge : PySem.W.findIn K (.ref C_TooLarge) "__getattr__" = some none) (xd_TooLarge : PySem.W.hasDictIn K C_TooLarge = true) (xa_TooLarge : PySem.W.findIn K (.ref C_TooLarge) "__class__" = some (some (.builtin "object.__class__"))) (xm_TooLarge : PySem.W.mroIn K C_TooLarge (.type "object") = some true) (xb_TooLarge : PySem.W.subIn K (.ref C_TooLarge) (.ref fB) = some true)
    (kt_TooLarge_Refused : PySem.W.kitOne K (.ref C_TooLarge) (.ref C_Refused) = some false)
    (kt_TooLarge_TooLarge : PySem.W.kitOne K (.ref C_TooLarge) (.ref C_TooLarge) = some true)
    (kt_TooLarge_InvalidPlace : PySem.W.kitOne K (.ref C_TooLarge) (.ref C_InvalidPlace) = some false)
    (kt_TooLarge_InvalidIndex : PySem.W.kitOne K (.ref C_TooLarge) (.ref C_InvalidIndex) = some false)
    (kt_TooLarge_NothingToUndo : PySem.W.kitOne K (.ref C_TooLarge) (.ref C_NothingToUndo) = some false)
    (xg_InvalidPlace : PySem.W.findIn K (.ref C_InvalidPlace) "__getattribute__" = some (some (.builtin "BaseException.__getattribute__"))) (xk_InvalidPlace : PySem.W.findIn K (.ref C_InvalidPlace) "__getattr__" = some none) (xd_InvalidPlace : PySem.W.hasDictIn K C_InvalidPlace = true) (xa_InvalidPlace : PySem.W.findIn K (.ref C_InvalidPlace) "__class__" = some (some (.builtin "object.__class__"))) (xm_InvalidPlace : PySem.W.mroIn K C_InvalidPlace (.type "object") = some true) (xb_InvalidPlace : PySem.W.subIn K (.ref C_InvalidPlace) (.ref fB) = some true)
    (kt_InvalidPlace_Refused : PySem.W.kitOne K (.ref C_InvalidPlace) (.ref C_Refused) = some false)
    (kt_InvalidPlace_TooLarge : PySem.W.kitOne K (.ref C_InvalidPlace) (.ref C_TooLarge) = some false)
    (kt_InvalidPlace_InvalidPlace : PySem.W.kitOne K (.ref C_InvalidPlace) (.ref C_InvalidPlace) = some true)
    (kt_InvalidPlace_InvalidIndex : PySem.W.kitOne K (.ref C_InvalidPlace) (.ref C_InvalidIndex) = some false)
    (kt_InvalidPlace_NothingToUndo : PySem.W.kitOne K (.ref C_InvalidPlace) (.ref C_NothingToUndo) = some false)
    (xg_InvalidIndex : PySem.W.findIn K (.ref C_InvalidIndex) "__getattribute__" = some (some (.builtin "BaseException.__getattribute__"))) (xk_InvalidIndex : PySem.W.findIn K (.ref C_InvalidIndex) "__getattr__" = some none) (xd_InvalidIndex : PySem.W.hasDictIn K C_InvalidIndex = true) (xa_InvalidIndex : PySem.W.findIn K (.ref C_InvalidIndex) "__class__" = some (some (.builtin "object.__class__"))) (xm_InvalidIndex : PySem.W.mroIn K C_InvalidIndex (.type "object") = some true) (xb_InvalidIndex : PySem.W.subIn K (.ref C_InvalidIndex) (.ref fB) = some true)
    (kt_InvalidIndex_Refused : PySem.W.kitOne K (.ref C_InvalidIndex) (.ref C_Refused) = some false)
    (kt_InvalidIndex_TooLarge : PySem.W.kitOne K (.ref C_InvalidIndex) (.ref C_TooLarge) = some false)
    (kt_InvalidIndex_InvalidPlace : PySem.W.kitOne K (.ref C_InvalidIndex) (.ref C_InvalidPlace) = some false)
    (kt_InvalidIndex_InvalidIndex : PySem.W.kitOne K (.ref C_InvalidIndex) (.ref C_InvalidIndex) = some true)
    (kt_InvalidIndex_NothingToUndo : PySem.W.kitOne K (.ref C_InvalidIndex) (.ref C_NothingToUndo) = some false)
    (xg_NothingToUndo : PySem.W.findIn K (.ref C_NothingToUndo) "__getattribute__" = some (some (.builtin "BaseException.__getattribute__"))) (xk_NothingToUndo : PySem.W.findIn K (.ref C_NothingToUndo) "__getattr__" = some none) (xd_NothingToUndo : PySem.W.hasDictIn K C_NothingToUndo = true) (xa_NothingToUndo : PySem.W.findIn K (.ref C_NothingToUndo) "__class__" = some (some (.builtin "object.__class__"))) (xm_NothingToUndo : PySem.W.mroIn K C_NothingToUndo (.type "object") = some true) (xb_NothingToUndo : PySem.W.subIn K (.ref C_NothingToUndo) (.ref fB) = some true)
    (kt_NothingToUndo_Refused : PySem.W.kitOne K (.ref C_NothingToUndo) (.ref C_Refused) = some false)
    (kt_NothingToUndo_TooLarge : PySem.W.kitOne K (.ref C_NothingToUndo) (.ref C_TooLarge) = some false)
    (kt_NothingToUndo_InvalidPlace : PySem.W.kitOne K (.ref C_NothingToUndo) (.ref C_InvalidPlace) = some false)
    (kt_NothingToUndo_InvalidIndex : PySem.W.kitOne K (.ref C_NothingToUndo) (.ref C_InvalidIndex) = some false)
    (kt_NothingToUndo_NothingToUndo : PySem.W.kitOne K (.ref C_NothingToUndo) (.ref C_NothingToUndo) = some true)
    (z_len : PySem.W.nsIn K mainGlobals "len" = some none)
    (z_range : PySem.W.nsIn K mainGlobals "range" = some none)
    (z_int : PySem.W.nsIn K mainGlobals "int" = some none)
    (z_abs : PySem.W.nsIn K mainGlobals "abs" = some none)
    (z_isinstance : PySem.W.nsIn K mainGlobals "isinstance" = some none)
    (z_all : PySem.W.nsIn K mainGlobals "all" = some none)
    (z_bool : PySem.W.nsIn K mainGlobals "bool" = some none)
    (z_str : PySem.W.nsIn K mainGlobals "str" = some none)
    (z_list : PySem.W.nsIn K mainGlobals "list" = some none)
    (z_tuple : PySem.W.nsIn K mainGlobals "tuple" = some none)
    (z_sorted : PySem.W.nsIn K mainGlobals "sorted" = some none)
    {t_MOST_ITEMS : Tok} (n_MOST_ITEMS : PySem.W.nsIn K mainGlobals "MOST_ITEMS" = some (some (.int (24) t_MOST_ITEMS)))
    : ∃ fd : FuncData, (∀ (s : Shared) (v : Value), BindsTo s fd ⟨[v], []⟩ [("_law_script", v)]) ∧ ∀ base : Heap, K.In base → base.Ns mainGlobals mg → FnOk l.prog w K mg base (L2.CX l.prog w) 6 fa fd ["_law_script"] (spG K TLaw) := by
  have e := hfa.symm.trans (PySem.W.mg_of X G a_law)
  cases e
  have F_divides := fun_mk (st := st_divides) l_divides c_divides k_divides
  have m_divides := PySem.W.mg_of X G a_divides
  have b_divides := F_divides.binds (ps := ["number", "other"]) fun _ _ _ _ _ _ us hl => match us, hl with | [_, _], _ => rfl
  have F_do_fit := fun_mk (st := st_do_fit) l_do_fit c_do_fit k_do_fit
  have m_do_fit := PySem.W.mg_of X G a_do_fit
  have b_do_fit := F_do_fit.binds (ps := ["one", "other"]) fun _ _ _ _ _ _ us hl => match us, hl with | [_, _], _ => rfl
  have F_l_bag := fun_mk (st := st_l_bag) l_l_bag c_l_bag k_l_bag
  have m_l_bag := PySem.W.mg_of X G a_l_bag
  have b_l_bag := F_l_bag.binds (ps := ["_law_script"]) fun _ _ _ _ _ _ us hl => match us, hl with | [_], _ => rfl
  have F_l_stirred := fun_mk (st := st_l_stirred) l_l_stirred c_l_stirred k_l_stirred
  have m_l_stirred := PySem.W.mg_of X G a_l_stirred
  have b_l_stirred := F_l_stirred.binds (ps := ["_law_bag_here", "_law_wide"]) fun _ _ _ _ _ _ us hl => match us, hl with | [_, _], _ => rfl
  have F_l_draw := fun_mk (st := st_l_draw) l_l_draw c_l_draw k_l_draw
  have m_l_draw := PySem.W.mg_of X G a_l_draw
  have b_l_draw := F_l_draw.binds (ps := ["_law_bag_here", "_law_wide"]) fun _ _ _ _ _ _ us hl => match us, hl with | [_, _], _ => rfl
  have F_l_alike := fun_mk (st := st_l_alike) l_l_alike c_l_alike k_l_alike
  have m_l_alike := PySem.W.mg_of X G a_l_alike
  have b_l_alike := F_l_alike.binds (ps := ["_law_found", "_law_due"]) fun _ _ _ _ _ _ us hl => match us, hl with | [_, _], _ => rfl
  have F_l_asked := fun_mk (st := st_l_asked) l_l_asked c_l_asked k_l_asked
  have m_l_asked := PySem.W.mg_of X G a_l_asked
  have b_l_asked := F_l_asked.binds (ps := ["_law_way", "_law_notebook", "_law_a", "_law_b"]) fun _ _ _ _ _ _ us hl => match us, hl with | [_, _, _, _], _ => rfl
  have F_l_state := fun_mk (st := st_l_state) l_l_state c_l_state k_l_state
  have m_l_state := PySem.W.mg_of X G a_l_state
  have b_l_state := F_l_state.binds (ps := ["_law_notebook"]) fun _ _ _ _ _ _ us hl => match us, hl with | [_], _ => rfl
  have F_l_right := fun_mk (st := st_l_right) l_l_right c_l_right k_l_right
  have m_l_right := PySem.W.mg_of X G a_l_right
  have b_l_right := F_l_right.binds (ps := ["_law_bag_here"]) fun _ _ _ _ _ _ us hl => match us, hl with | [_], _ => rfl
  have F_law := fun_mk (st := st_law) l_law c_law k_law
  have m_law := PySem.W.mg_of X G a_law
  have b_law := F_law.binds (ps := ["_law_script"]) fun _ _ _ _ _ _ us hl => match us, hl with | [_], _ => rfl
  have bI : BasI K mg "RestError" fB (.type "type") := ⟨PySem.W.mg_of X G aB, sB, rB, vB⟩
  have c_Refused : ExcI K mg "Refused" C_Refused fI_Refused ["place"] := ⟨PySem.W.mg_of X G aC_Refused, ⟨⟨_, _, _, _, _, _, _, _, _, _, _, _, _, _, _, xL_Refused, refs_one fB⟩, sa_Refused, eC_Refused, tC_Refused, kC_Refused⟩, ⟨ga_Refused, gg_Refused, eC_Refused, hC_Refused⟩, iC_Refused, tI_Refused, (by intro f hf; simp only [List.mem_cons, List.not_mem_nil, or_false] at hf; subst hf; exact nf0_Refused), exm_self eC_Refused isC_Refused tC_Refused sC_Refused⟩
  have FI_Refused := fun_mk (st := st_Refused___init__) lI_Refused cI_Refused kI_Refused
  have bI_Refused := FI_Refused.binds (ps := ["self", "place"]) fun _ _ _ _ _ _ us hl => match us, hl with | [_, _], _ => rfl
  have oC_Notebook : Cls K C_Notebook := ⟨opg_Notebook, ohd_Notebook, opo_Notebook, osa_Notebook⟩
  have ob_Notebook : ObC K C_Notebook ["notebook_states"] := ⟨oC_Notebook, by intro f hf; simp only [List.mem_cons, List.not_mem_nil, or_false] at hf; subst hf; exact on0_Notebook⟩
  have mC_Notebook := PySem.W.mg_of X G aC_Notebook
  have F_Notebook___init__ := fun_mk (st := st_Notebook___init__) l_Notebook___init__ c_Notebook___init__ k_Notebook___init__
  have b_Notebook___init__ := F_Notebook___init__.binds (ps := ["self"]) fun _ _ _ _ _ _ us hl => match us, hl with | [_], _ => rfl
  have F_Notebook___len__ := fun_mk (st := st_Notebook___len__) l_Notebook___len__ c_Notebook___len__ k_Notebook___len__
  have b_Notebook___len__ := F_Notebook___len__.binds (ps := ["self"]) fun _ _ _ _ _ _ us hl => match us, hl with | [_], _ => rfl
  have F_Notebook_tell := fun_mk (st := st_Notebook_tell) l_Notebook_tell c_Notebook_tell k_Notebook_tell
  have b_Notebook_tell := F_Notebook_tell.binds (ps := ["self", "place", "value"]) fun _ _ _ _ _ _ us hl => match us, hl with | [_, _, _], _ => rfl
  have F_Notebook_forget := fun_mk (st := st_Notebook_forget) l_Notebook_forget c_Notebook_forget k_Notebook_forget
  have b_Notebook_forget := F_Notebook_forget.binds (ps := ["self", "place"]) fun _ _ _ _ _ _ us hl => match us, hl with | [_, _], _ => rfl
  have F_Notebook_undo := fun_mk (st := st_Notebook_undo) l_Notebook_undo c_Notebook_undo k_Notebook_undo
  have b_Notebook_undo := F_Notebook_undo.binds (ps := ["self"]) fun _ _ _ _ _ _ us hl => match us, hl with | [_], _ => rfl
  have F_Notebook_mark := fun_mk (st := st_Notebook_mark) l_Notebook_mark c_Notebook_mark k_Notebook_mark
  have b_Notebook_mark := F_Notebook_mark.binds (ps := ["self"]) fun _ _ _ _ _ _ us hl => match us, hl with | [_], _ => rfl
  have F_Notebook_undo_to := fun_mk (st := st_Notebook_undo_to) l_Notebook_undo_to c_Notebook_undo_to k_Notebook_undo_to
  have b_Notebook_undo_to := F_Notebook_undo_to.binds (ps := ["self", "index"]) fun _ _ _ _ _ _ us hl => match us, hl with | [_, _], _ => rfl
  have F_Notebook_book := fun_mk (st := st_Notebook_book) l_Notebook_book c_Notebook_book k_Notebook_book
  have b_Notebook_book := F_Notebook_book.binds (ps := ["self"]) fun _ _ _ _ _ _ us hl => match us, hl with | [_], _ => rfl
  have c_TooLarge : ExcN K mg "TooLarge" C_TooLarge := ⟨PySem.W.mg_of X G aC_TooLarge, qC_TooLarge, kC_TooLarge, eC_TooLarge, tC_TooLarge, exm_self eC_TooLarge isC_TooLarge tC_TooLarge sC_TooLarge⟩
  have c_InvalidPlace : ExcN K mg "InvalidPlace" C_InvalidPlace := ⟨PySem.W.mg_of X G aC_InvalidPlace, qC_InvalidPlace, kC_InvalidPlace, eC_InvalidPlace, tC_InvalidPlace, exm_self eC_InvalidPlace isC_InvalidPlace tC_InvalidPlace sC_InvalidPlace⟩
  have c_InvalidIndex : ExcN K mg "InvalidIndex" C_InvalidIndex := ⟨PySem.W.mg_of X G aC_InvalidIndex, qC_InvalidIndex, kC_InvalidIndex, eC_InvalidIndex, tC_InvalidIndex, exm_self eC_InvalidIndex isC_InvalidIndex tC_InvalidIndex sC_InvalidIndex⟩
  have c_NothingToUndo : ExcN K mg "NothingToUndo" C_NothingToUndo := ⟨PySem.W.mg_of X G aC_NothingToUndo, qC_NothingToUndo, kC_NothingToUndo, eC_NothingToUndo, tC_NothingToUndo, exm_self eC_NothingToUndo isC_NothingToUndo tC_NothingToUndo sC_NothingToUndo⟩
  have ktab : KitTab K [C_Refused, C_TooLarge, C_InvalidPlace, C_InvalidIndex, C_NothingToUndo] fB := by
    refine ⟨fun i j A D hi hj => ?_, fun A hA => ?_, fun A hA => ?_⟩
    · match i, hi with
      | 0, hi => cases hi; (match j, hj with
        | 0, hj => cases hj; exact kt_Refused_Refused
        | 1, hj => cases hj; exact kt_Refused_TooLarge
        | 2, hj => cases hj; exact kt_Refused_InvalidPlace
        | 3, hj => cases hj; exact kt_Refused_InvalidIndex
        | 4, hj => cases hj; exact kt_Refused_NothingToUndo
        | n + 5, hj => simp at hj)
      | 1, hi => cases hi; (match j, hj with
        | 0, hj => cases hj; exact kt_TooLarge_Refused
        | 1, hj => cases hj; exact kt_TooLarge_TooLarge
        | 2, hj => cases hj; exact kt_TooLarge_InvalidPlace
        | 3, hj => cases hj; exact kt_TooLarge_InvalidIndex
        | 4, hj => cases hj; exact kt_TooLarge_NothingToUndo
        | n + 5, hj => simp at hj)
      | 2, hi => cases hi; (match j, hj with
        | 0, hj => cases hj; exact kt_InvalidPlace_Refused
        | 1, hj => cases hj; exact kt_InvalidPlace_TooLarge
        | 2, hj => cases hj; exact kt_InvalidPlace_InvalidPlace
        | 3, hj => cases hj; exact kt_InvalidPlace_InvalidIndex
        | 4, hj => cases hj; exact kt_InvalidPlace_NothingToUndo
        | n + 5, hj => simp at hj)
      | 3, hi => cases hi; (match j, hj with
        | 0, hj => cases hj; exact kt_InvalidIndex_Refused
        | 1, hj => cases hj; exact kt_InvalidIndex_TooLarge
        | 2, hj => cases hj; exact kt_InvalidIndex_InvalidPlace
        | 3, hj => cases hj; exact kt_InvalidIndex_InvalidIndex
        | 4, hj => cases hj; exact kt_InvalidIndex_NothingToUndo
        | n + 5, hj => simp at hj)
      | 4, hi => cases hi; (match j, hj with
        | 0, hj => cases hj; exact kt_NothingToUndo_Refused
        | 1, hj => cases hj; exact kt_NothingToUndo_TooLarge
        | 2, hj => cases hj; exact kt_NothingToUndo_InvalidPlace
        | 3, hj => cases hj; exact kt_NothingToUndo_InvalidIndex
        | 4, hj => cases hj; exact kt_NothingToUndo_NothingToUndo
        | n + 5, hj => simp at hj)
      | n + 5, hi => simp at hi
    · simp only [List.mem_cons, List.not_mem_nil, or_false] at hA; rcases hA with rfl | rfl | rfl | rfl | rfl
      · exact ⟨xg_Refused, xk_Refused, eC_Refused, xd_Refused, xa_Refused, kn, kq, xm_Refused⟩
      · exact ⟨xg_TooLarge, xk_TooLarge, eC_TooLarge, xd_TooLarge, xa_TooLarge, kn, kq, xm_TooLarge⟩
      · exact ⟨xg_InvalidPlace, xk_InvalidPlace, eC_InvalidPlace, xd_InvalidPlace, xa_InvalidPlace, kn, kq, xm_InvalidPlace⟩
      · exact ⟨xg_InvalidIndex, xk_InvalidIndex, eC_InvalidIndex, xd_InvalidIndex, xa_InvalidIndex, kn, kq, xm_InvalidIndex⟩
      · exact ⟨xg_NothingToUndo, xk_NothingToUndo, eC_NothingToUndo, xd_NothingToUndo, xa_NothingToUndo, kn, kq, xm_NothingToUndo⟩
    · simp only [List.mem_cons, List.not_mem_nil, or_false] at hA; rcases hA with rfl | rfl | rfl | rfl | rfl
      · exact exm_gen eB isB tB xb_Refused
      · exact exm_gen eB isB tB xb_TooLarge
      · exact exm_gen eB isB tB xb_InvalidPlace
      · exact exm_gen eB isB tB xb_InvalidIndex
      · exact exm_gen eB isB tB xb_NothingToUndo
  have y_len := PySem.W.mg_none_of X G z_len
  have y_range := PySem.W.mg_none_of X G z_range
  have y_int := PySem.W.mg_none_of X G z_int
  have y_abs := PySem.W.mg_none_of X G z_abs
  have y_isinstance := PySem.W.mg_none_of X G z_isinstance
  have y_all := PySem.W.mg_none_of X G z_all
  have y_bool := PySem.W.mg_none_of X G z_bool
  have y_str := PySem.W.mg_none_of X G z_str
  have y_list := PySem.W.mg_none_of X G z_list
  have y_tuple := PySem.W.mg_none_of X G z_tuple
  have y_sorted := PySem.W.mg_none_of X G z_sorted
  have v_MOST_ITEMS : ∃ t, mg "MOST_ITEMS" = some (.int (24) t) := ⟨_, PySem.W.mg_of X G n_MOST_ITEMS⟩
  refine ⟨PySem.W.fnOf "law" "law" (defArgs st_law) (defBody st_law) (defScope st_law) .none kV_law dc_law pm_law an_law cd_law ct_law, fun s v => .of_eq rfl, fun base _ _ => ?_⟩
  have g_bag := fn_bag (base := base) (w := w) (P := l.prog) (mg := mg) y_int y_abs F_l_bag
  have e1_l_bag := fd_ok (n := 1) F_l_bag m_l_bag rfl b_l_bag TBag_mono g_bag
  have g_stirred := fn_stirred (base := base) (w := w) (P := l.prog) (mg := mg) y_int y_range F_l_stirred
  have e3_l_stirred := fd_ok (n := 2) F_l_stirred m_l_stirred rfl b_l_stirred TDraw_mono g_stirred
  have g_draw := fn_draw (base := base) (w := w) (P := l.prog) (mg := mg) y_len y_int e3_l_stirred F_l_draw
  have e5_l_draw := fd_ok (n := 2) F_l_draw m_l_draw rfl b_l_draw TDraw_mono g_draw
  have al0 := fd_ok (n := 2) F_l_alike m_l_alike rfl b_l_alike (TAlk_mono 0) (fn_alike (base := base) (w := w) (P := l.prog) (mg := mg) y_isinstance y_len y_all y_range y_bool y_int y_str y_list y_tuple F_l_alike 0 0 (fun m e => nomatch e))
  have al1 := fd_ok (n := 2) F_l_alike m_l_alike rfl b_l_alike (TAlk_mono 1) (fn_alike (base := base) (w := w) (P := l.prog) (mg := mg) y_isinstance y_len y_all y_range y_bool y_int y_str y_list y_tuple F_l_alike 1 1 (fun m e => by cases e; exact al0))
  have al2 := fd_ok (n := 2) F_l_alike m_l_alike rfl b_l_alike (TAlk_mono 2) (fn_alike (base := base) (w := w) (P := l.prog) (mg := mg) y_isinstance y_len y_all y_range y_bool y_int y_str y_list y_tuple F_l_alike 2 2 (fun m e => by cases e; exact al1))
  have al3 := fd_ok (n := 2) F_l_alike m_l_alike rfl b_l_alike (TAlk_mono 3) (fn_alike (base := base) (w := w) (P := l.prog) (mg := mg) y_isinstance y_len y_all y_range y_bool y_int y_str y_list y_tuple F_l_alike 3 3 (fun m e => by cases e; exact al2))
  have g_nb_book := fn_nb_book (base := base) (w := w) (P := l.prog) (mg := mg) ob_Notebook y_list F_Notebook_book
  have o11_Notebook_book := FPr.mk (P := l.prog) (w := w) (mg := mg) (base := base) (TBkP_mono _) oC_Notebook ⟨_, _, _, _, ⟨pa_Notebook_book, pg_Notebook_book, pt_Notebook_book, _, pr_Notebook_book⟩, b_Notebook_book, g_nb_book⟩
  have g_nb_len := fn_nb_len (base := base) (w := w) (P := l.prog) (mg := mg) ob_Notebook y_len F_Notebook___len__
  have o13_Notebook___len__ := FLn.mk (P := l.prog) (w := w) (mg := mg) (base := base) (TNbLen_mono _) ⟨_, _, _, at_Notebook___len__, fn_Notebook___len__, b_Notebook___len__, g_nb_len⟩
  have g_nb_mark := fn_nb_mark (base := base) (w := w) (P := l.prog) (mg := mg) ob_Notebook y_len F_Notebook_mark
  have o15_Notebook_mark := fm_ok (n := 1) oC_Notebook ⟨at_Notebook_mark, fn_Notebook_mark, k_Notebook_mark⟩ rfl b_Notebook_mark (TNbLen_mono _) g_nb_mark
  have g_state := fn_state (base := base) (w := w) (P := l.prog) (mg := mg) y_len o11_Notebook_book o13_Notebook___len__ o15_Notebook_mark F_l_state
  have e17_l_state := fd_ok (n := 1) F_l_state m_l_state rfl b_l_state (TState_mono _) g_state
  have g_refused_init := fn_refused_init (base := base) (w := w) (P := l.prog) (mg := mg) c_Refused bI FI_Refused
  have g_divides := fn_divides (base := base) (w := w) (P := l.prog) (mg := mg) F_divides
  have e20_divides := fd_ok (n := 2) F_divides m_divides rfl b_divides TDivs_mono g_divides
  have g_do_fit := fn_do_fit (base := base) (w := w) (P := l.prog) (mg := mg) e20_divides F_do_fit
  have e22_do_fit := fd_ok (n := 2) F_do_fit m_do_fit rfl b_do_fit TFit_mono g_do_fit
  have g_nb_tell := fn_nb_tell (base := base) (w := w) (P := l.prog) (mg := mg) ob_Notebook c_Refused g_refused_init bI_Refused c_TooLarge y_len y_sorted v_MOST_ITEMS e22_do_fit F_Notebook_tell
  have o24_Notebook_tell := fm_ok (n := 3) oC_Notebook ⟨at_Notebook_tell, fn_Notebook_tell, k_Notebook_tell⟩ rfl b_Notebook_tell (TTell_mono _ _ _) g_nb_tell
  have g_nb_forget := fn_nb_forget (base := base) (w := w) (P := l.prog) (mg := mg) ob_Notebook c_InvalidPlace y_len F_Notebook_forget
  have o26_Notebook_forget := fm_ok (n := 2) oC_Notebook ⟨at_Notebook_forget, fn_Notebook_forget, k_Notebook_forget⟩ rfl b_Notebook_forget (TForget_mono _ _) g_nb_forget
  have g_nb_undo_to := fn_nb_undo_to (base := base) (w := w) (P := l.prog) (mg := mg) ob_Notebook c_InvalidIndex y_len F_Notebook_undo_to
  have o28_Notebook_undo_to := fm_ok (n := 2) oC_Notebook ⟨at_Notebook_undo_to, fn_Notebook_undo_to, k_Notebook_undo_to⟩ rfl b_Notebook_undo_to (TUndoTo_mono _ _) g_nb_undo_to
  have g_nb_undo := fn_nb_undo (base := base) (w := w) (P := l.prog) (mg := mg) ob_Notebook c_NothingToUndo y_len F_Notebook_undo
  have o30_Notebook_undo := fm_ok (n := 1) oC_Notebook ⟨at_Notebook_undo, fn_Notebook_undo, k_Notebook_undo⟩ rfl b_Notebook_undo (TUndo_mono _ _) g_nb_undo
  have g_asked := fn_asked (base := base) (w := w) (P := l.prog) (mg := mg) y_isinstance bI.g c_Refused.g c_TooLarge.g c_InvalidPlace.g c_InvalidIndex.g c_NothingToUndo.g ktab o24_Notebook_tell o26_Notebook_forget o28_Notebook_undo_to o30_Notebook_undo F_l_asked
  have e32_l_asked := fd_ok (n := 4) F_l_asked m_l_asked rfl b_l_asked (TAsk_mono _ _ _ _ _ _) g_asked
  have g_nb_init := fn_nb_init (base := base) (w := w) (P := l.prog) (mg := mg) ob_Notebook F_Notebook___init__
  have o34_Notebook___init__ := FMk.mk (P := l.prog) (w := w) (mg := mg) (base := base) (x := "Notebook") (TInit_mono _) mC_Notebook ⟨_, _, _, ⟨omk_Notebook, at_Notebook___init__, fn_Notebook___init__, okc_Notebook⟩, b_Notebook___init__, g_nb_init⟩
  have o35_Notebook_tell := fm_ok (n := 3) oC_Notebook ⟨at_Notebook_tell, fn_Notebook_tell, k_Notebook_tell⟩ rfl b_Notebook_tell (TTell_mono _ _ _) g_nb_tell
  have g_right := fn_right (base := base) (w := w) (P := l.prog) (mg := mg) y_int y_len y_range e5_l_draw al3 e17_l_state e32_l_asked o34_Notebook___init__ o13_Notebook___len__ o35_Notebook_tell F_l_right
  have e37_l_right := fd_ok (n := 1) F_l_right m_l_right rfl b_l_right TRightN_mono g_right
  exact fn_law (base := base) (w := w) (P := l.prog) (mg := mg) y_len y_range e1_l_bag e5_l_draw al3 e17_l_state e32_l_asked e37_l_right o34_Notebook___init__ o11_Notebook_book o13_Notebook___len__ o35_Notebook_tell o26_Notebook_forget o28_Notebook_undo_to o30_Notebook_undo F_law
theorem walk {l : PySem.W.OpenLaw} {q : Program} {loose : List Str} {XP : (Str → Option Value) → Heap → Prop} {YP : World → Heap → Prop} {d : DefRec} {K : Params → PySem.W.Frag} (hn : l.most = some 63) (hdf : d.params.defaults = [])
    (hY : ∀ (w : World) (h : Heap), YP w h → (K w.params).In h)
    (F : ∀ (w : World) (mg : Str → Option Value) (fa : Addr) (h : Heap), (K w.params).In h → h.Ns mainGlobals mg → mg d.name = some (.ref fa) →
      ∃ fd : FuncData, (∀ (s : Shared) (u : Value), BindsTo s fd ⟨[u], []⟩ [("_law_script", u)]) ∧ ∀ base : Heap, (K w.params).In base → base.Ns mainGlobals mg → FnOk l.prog w (K w.params) mg base (L2.CX l.prog w) 6 fa fd ["_law_script"] (spG (K w.params) TLaw)) :
    PySem.W.WalkO q loose XP YP l.row.toRowW d [] (fun f vs => PySem.call f vs) :=
  L2.walk_of (n := 63) (k := 6) (x := "_law_script") (CX := fun w => L2.CX l.prog w) (sp := fun w => spG (K w.params) TLaw) hn (by decide) hdf ⟨rfl, by decide, by decide⟩ hY F (fun w H a ns hl _ hS => law_sp hl hS) fun w H s e s' z => by
    obtain ⟨_, _, _, _, _, _, _, _, _, _, _, _, z⟩ := z
    exact z
end PW
open PySem PySem.W PyProof.Rows
set_option maxHeartbeats 0 in
theorem PySem.Challenge.cw_keeprests_k58_errors_of_notebooks_holds : PySem.Challenge.rw_keeprests_k58_errors_of_notebooks.Holds := by
  refine headX ?_
  k_fill
  refine PW.walk (l := PySem.Challenge.rw_keeprests_k58_errors_of_notebooks) rfl rfl (fun w h Y => PySem.W.kIn_of Y) ?F
  case F =>
    intro w mg fa h KX G hmg
    refine' PW.top_all KX G hmg ?aB ?sB ?rB ?vB ?aC_Refused ?xL_Refused ?sa_Refused ?ga_Refused ?gg_Refused ?nf0_Refused ?iC_Refused ?tI_Refused ?lI_Refused ?cI_Refused ?kI_Refused ?kC_Refused ?eC_Refused ?tC_Refused ?hC_Refused ?isC_Refused ?sC_Refused ?aC_TooLarge ?qC_TooLarge ?kC_TooLarge ?eC_TooLarge ?tC_TooLarge ?isC_TooLarge ?sC_TooLarge ?aC_InvalidPlace ?qC_InvalidPlace ?kC_InvalidPlace ?eC_InvalidPlace ?tC_InvalidPlace ?isC_InvalidPlace ?sC_InvalidPlace ?aC_InvalidIndex ?qC_InvalidIndex ?kC_InvalidIndex ?eC_InvalidIndex ?tC_InvalidIndex ?isC_InvalidIndex ?sC_InvalidIndex ?aC_NothingToUndo ?qC_NothingToUndo ?kC_NothingToUndo ?eC_NothingToUndo ?tC_NothingToUndo ?isC_NothingToUndo ?sC_NothingToUndo ?a_divides ?l_divides ?c_divides ?k_divides ?a_do_fit ?l_do_fit ?c_do_fit ?k_do_fit ?a_l_bag ?l_l_bag ?c_l_bag ?k_l_bag ?a_l_stirred ?l_l_stirred ?c_l_stirred ?k_l_stirred ?a_l_draw ?l_l_draw ?c_l_draw ?k_l_draw ?a_l_alike ?l_l_alike ?c_l_alike ?k_l_alike ?a_l_asked ?l_l_asked ?c_l_asked ?k_l_asked ?a_l_state ?l_l_state ?c_l_state ?k_l_state ?a_l_right ?l_l_right ?c_l_right ?k_l_right ?a_law ?l_law ?c_law ?k_law ?aC_Notebook ?opg_Notebook ?ohd_Notebook ?opo_Notebook ?osa_Notebook ?omk_Notebook ?okc_Notebook ?on0_Notebook ?at_Notebook___init__ ?fn_Notebook___init__ ?l_Notebook___init__ ?c_Notebook___init__ ?k_Notebook___init__ ?at_Notebook___len__ ?fn_Notebook___len__ ?l_Notebook___len__ ?c_Notebook___len__ ?k_Notebook___len__ ?at_Notebook_tell ?fn_Notebook_tell ?l_Notebook_tell ?c_Notebook_tell ?k_Notebook_tell ?at_Notebook_forget ?fn_Notebook_forget ?l_Notebook_forget ?c_Notebook_forget ?k_Notebook_forget ?at_Notebook_undo ?fn_Notebook_undo ?l_Notebook_undo ?c_Notebook_undo ?k_Notebook_undo ?at_Notebook_mark ?fn_Notebook_mark ?l_Notebook_mark ?c_Notebook_mark ?k_Notebook_mark ?at_Notebook_undo_to ?fn_Notebook_undo_to ?l_Notebook_undo_to ?c_Notebook_undo_to ?k_Notebook_undo_to ?pa_Notebook_book ?pg_Notebook_book ?pt_Notebook_book ?pr_Notebook_book ?l_Notebook_book ?c_Notebook_book ?k_Notebook_book ?eB ?isB ?tB ?kn ?kq ?xg_Refused ?xk_Refused ?xd_Refused ?xa_Refused ?xm_Refused ?xb_Refused ?kt_Refused_Refused ?kt_Refused_TooLarge ?kt_Refused_InvalidPlace ?kt_Refused_InvalidIndex ?kt_Refused_NothingToUndo ?xg_TooLarge ?xk_TooLarge ?xd_TooLarge ?xa_TooLarge ?xm_TooLarge ?xb_TooLarge ?kt_TooLarge_Refused ?kt_TooLarge_TooLarge ?kt_TooLarge_InvalidPlace ?kt_TooLarge_InvalidIndex ?kt_TooLarge_NothingToUndo ?xg_InvalidPlace ?xk_InvalidPlace ?xd_InvalidPlace ?xa_InvalidPlace ?xm_InvalidPlace ?xb_InvalidPlace ?kt_InvalidPlace_Refused ?kt_InvalidPlace_TooLarge ?kt_InvalidPlace_InvalidPlace ?kt_InvalidPlace_InvalidIndex ?kt_InvalidPlace_NothingToUndo ?xg_InvalidIndex ?xk_InvalidIndex ?xd_InvalidIndex ?xa_InvalidIndex ?xm_InvalidIndex ?xb_InvalidIndex ?kt_InvalidIndex_Refused ?kt_InvalidIndex_TooLarge ?kt_InvalidIndex_InvalidPlace ?kt_InvalidIndex_InvalidIndex ?kt_InvalidIndex_NothingToUndo ?xg_NothingToUndo ?xk_NothingToUndo ?xd_NothingToUndo ?xa_NothingToUndo ?xm_NothingToUndo ?xb_NothingToUndo ?kt_NothingToUndo_Refused ?kt_NothingToUndo_TooLarge ?kt_NothingToUndo_InvalidPlace ?kt_NothingToUndo_InvalidIndex ?kt_NothingToUndo_NothingToUndo ?z_len ?z_range ?z_int ?z_abs ?z_isinstance ?z_all ?z_bool ?z_str ?z_list ?z_tuple ?z_sorted ?n_MOST_ITEMS
    (case aB => k_is)
    (case sB => k_is)
    (case rB => k_is)
    (case vB => k_is)
    (case aC_Refused => k_is)
    (case xL_Refused => k_is)
    (case sa_Refused => k_is)
    (case ga_Refused => k_is)
    (case gg_Refused => k_is)
    (case nf0_Refused => k_is)
    (case iC_Refused => k_is)
    (case tI_Refused => k_is)
    (case lI_Refused => k_is)
    (case cI_Refused => k_is)
    (case kI_Refused => k_is)
    (case kC_Refused => k_is)
    (case eC_Refused => k_is)
    (case tC_Refused => k_is)
    (case hC_Refused => k_is)
    (case isC_Refused => k_is)
    (case sC_Refused => first | rfl | k_is)
    (case aC_TooLarge => k_is)
    (case qC_TooLarge => first | k_exc | k_is)
    (case kC_TooLarge => k_is)
    (case eC_TooLarge => k_is)
    (case tC_TooLarge => k_is)
    (case isC_TooLarge => k_is)
    (case sC_TooLarge => first | rfl | k_is)
    (case aC_InvalidPlace => k_is)
    (case qC_InvalidPlace => first | k_exc | k_is)
    (case kC_InvalidPlace => k_is)
    (case eC_InvalidPlace => k_is)
    (case tC_InvalidPlace => k_is)
    (case isC_InvalidPlace => k_is)
    (case sC_InvalidPlace => first | rfl | k_is)
    (case aC_InvalidIndex => k_is)
    (case qC_InvalidIndex => first | k_exc | k_is)
    (case kC_InvalidIndex => k_is)
    (case eC_InvalidIndex => k_is)
    (case tC_InvalidIndex => k_is)
    (case isC_InvalidIndex => k_is)
    (case sC_InvalidIndex => first | rfl | k_is)
    (case aC_NothingToUndo => k_is)
    (case qC_NothingToUndo => first | k_exc | k_is)
    (case kC_NothingToUndo => k_is)
    (case eC_NothingToUndo => k_is)
    (case tC_NothingToUndo => k_is)
    (case isC_NothingToUndo => k_is)
    (case sC_NothingToUndo => first | rfl | k_is)
    (case a_divides => k_is)
    (case l_divides => k_is)
    (case c_divides => k_is)
    (case k_divides => k_is)
    (case a_do_fit => k_is)
    (case l_do_fit => k_is)
    (case c_do_fit => k_is)
    (case k_do_fit => k_is)
    (case a_l_bag => k_is)
    (case l_l_bag => k_is)
    (case c_l_bag => k_is)
    (case k_l_bag => k_is)
    (case a_l_stirred => k_is)
    (case l_l_stirred => k_is)
    (case c_l_stirred => k_is)
    (case k_l_stirred => k_is)
    (case a_l_draw => k_is)
    (case l_l_draw => k_is)
    (case c_l_draw => k_is)
    (case k_l_draw => k_is)
    (case a_l_alike => k_is)
    (case l_l_alike => k_is)
    (case c_l_alike => k_is)
    (case k_l_alike => k_is)
    (case a_l_asked => k_is)
    (case l_l_asked => k_is)
    (case c_l_asked => k_is)
    (case k_l_asked => k_is)
    (case a_l_state => k_is)
    (case l_l_state => k_is)
    (case c_l_state => k_is)
    (case k_l_state => k_is)
    (case a_l_right => k_is)
    (case l_l_right => k_is)
    (case c_l_right => k_is)
    (case k_l_right => k_is)
    (case a_law => k_is)
    (case l_law => k_is)
    (case c_law => k_is)
    (case k_law => k_is)
    (case aC_Notebook => k_is)
    (case opg_Notebook => k_is)
    (case ohd_Notebook => k_is)
    (case opo_Notebook => k_is)
    (case osa_Notebook => k_is)
    (case omk_Notebook => k_is)
    (case okc_Notebook => k_is)
    (case on0_Notebook => k_is)
    (case at_Notebook___init__ => k_is)
    (case fn_Notebook___init__ => k_is)
    (case l_Notebook___init__ => k_is)
    (case c_Notebook___init__ => k_is)
    (case k_Notebook___init__ => k_is)
    (case at_Notebook___len__ => k_is)
    (case fn_Notebook___len__ => k_is)
    (case l_Notebook___len__ => k_is)
    (case c_Notebook___len__ => k_is)
    (case k_Notebook___len__ => k_is)
    (case at_Notebook_tell => k_is)
    (case fn_Notebook_tell => k_is)
    (case l_Notebook_tell => k_is)
    (case c_Notebook_tell => k_is)
    (case k_Notebook_tell => k_is)
    (case at_Notebook_forget => k_is)
    (case fn_Notebook_forget => k_is)
    (case l_Notebook_forget => k_is)
    (case c_Notebook_forget => k_is)
    (case k_Notebook_forget => k_is)
    (case at_Notebook_undo => k_is)
    (case fn_Notebook_undo => k_is)
    (case l_Notebook_undo => k_is)
    (case c_Notebook_undo => k_is)
    (case k_Notebook_undo => k_is)
    (case at_Notebook_mark => k_is)
    (case fn_Notebook_mark => k_is)
    (case l_Notebook_mark => k_is)
    (case c_Notebook_mark => k_is)
    (case k_Notebook_mark => k_is)
    (case at_Notebook_undo_to => k_is)
    (case fn_Notebook_undo_to => k_is)
    (case l_Notebook_undo_to => k_is)
    (case c_Notebook_undo_to => k_is)
    (case k_Notebook_undo_to => k_is)
    (case pa_Notebook_book => k_is)
    (case pg_Notebook_book => first | rfl | k_is)
    (case pt_Notebook_book => first | rfl | k_is)
    (case pr_Notebook_book => first | rfl | k_is)
    (case l_Notebook_book => k_is)
    (case c_Notebook_book => k_is)
    (case k_Notebook_book => k_is)
    (case eB => k_is)
    (case isB => k_is)
    (case tB => k_is)
    (case kn => first | rfl | k_is)
    (case kq => first | rfl | k_is)
    (case xg_Refused => k_is)
    (case xk_Refused => k_is)
    (case xd_Refused => k_is)
    (case xa_Refused => k_is)
    (case xm_Refused => k_is)
    (case xb_Refused => first | rfl | k_is)
    (case kt_Refused_Refused => first | rfl | k_is)
    (case kt_Refused_TooLarge => first | rfl | k_is)
    (case kt_Refused_InvalidPlace => first | rfl | k_is)
    (case kt_Refused_InvalidIndex => first | rfl | k_is)
    (case kt_Refused_NothingToUndo => first | rfl | k_is)
    (case xg_TooLarge => k_is)
    (case xk_TooLarge => k_is)
    (case xd_TooLarge => k_is)
    (case xa_TooLarge => k_is)
    (case xm_TooLarge => k_is)
    (case xb_TooLarge => first | rfl | k_is)
    (case kt_TooLarge_Refused => first | rfl | k_is)
    (case kt_TooLarge_TooLarge => first | rfl | k_is)
    (case kt_TooLarge_InvalidPlace => first | rfl | k_is)
    (case kt_TooLarge_InvalidIndex => first | rfl | k_is)
    (case kt_TooLarge_NothingToUndo => first | rfl | k_is)
    (case xg_InvalidPlace => k_is)
    (case xk_InvalidPlace => k_is)
    (case xd_InvalidPlace => k_is)
    (case xa_InvalidPlace => k_is)
    (case xm_InvalidPlace => k_is)
    (case xb_InvalidPlace => first | rfl | k_is)
    (case kt_InvalidPlace_Refused => first | rfl | k_is)
    (case kt_InvalidPlace_TooLarge => first | rfl | k_is)
    (case kt_InvalidPlace_InvalidPlace => first | rfl | k_is)
    (case kt_InvalidPlace_InvalidIndex => first | rfl | k_is)
    (case kt_InvalidPlace_NothingToUndo => first | rfl | k_is)
    (case xg_InvalidIndex => k_is)
    (case xk_InvalidIndex => k_is)
    (case xd_InvalidIndex => k_is)
    (case xa_InvalidIndex => k_is)
    (case xm_InvalidIndex => k_is)
    (case xb_InvalidIndex => first | rfl | k_is)
    (case kt_InvalidIndex_Refused => first | rfl | k_is)
    (case kt_InvalidIndex_TooLarge => first | rfl | k_is)
    (case kt_InvalidIndex_InvalidPlace => first | rfl | k_is)
    (case kt_InvalidIndex_InvalidIndex => first | rfl | k_is)
    (case kt_InvalidIndex_NothingToUndo => first | rfl | k_is)
    (case xg_NothingToUndo => k_is)
    (case xk_NothingToUndo => k_is)
    (case xd_NothingToUndo => k_is)
    (case xa_NothingToUndo => k_is)
    (case xm_NothingToUndo => k_is)
    (case xb_NothingToUndo => first | rfl | k_is)
    (case kt_NothingToUndo_Refused => first | rfl | k_is)
    (case kt_NothingToUndo_TooLarge => first | rfl | k_is)
    (case kt_NothingToUndo_InvalidPlace => first | rfl | k_is)
    (case kt_NothingToUndo_InvalidIndex => first | rfl | k_is)
    (case kt_NothingToUndo_NothingToUndo => first | rfl | k_is)
    (case z_len => k_is)
    (case z_range => k_is)
    (case z_int => k_is)
    (case z_abs => k_is)
    (case z_isinstance => k_is)
    (case z_all => k_is)
    (case z_bool => k_is)
    (case z_str => k_is)
    (case z_list => k_is)
    (case z_tuple => k_is)
    (case z_sorted => k_is)
    (case n_MOST_ITEMS => k_is)
