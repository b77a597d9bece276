import PyProof.Rows.All
import Wide.All
import OpenK.AllK
import Wide.FinOn
import HandS.ForMost
import HandS.ForExc
import HandS.Walk
import HandS.Wide
import HandS.WideBits
import HandS.Strs
import HandS.IsInst
import HandS.Style
import HandS.Deep
import HandS.CallSlots
import HandS.SetFor
import HandS.RaiseMore
import HandS.ExcInit
import HandS.SortRule
import HandS.SortInts
import HandS.Conv
import PyProof.P3Eq
import HandS.TryOnly
import HandS.TupLe
import PyProof.LongRange
import HandS.Defaults
import HandS.ExcField
import KE.KDictZip
import HandS.Iter
import HandS.TupSets
import HandS.SortOrd
import HandS.TryMany
import HandS.Exc
import HandS.Property
import HandS.WordsExc
import KE.KExcIs
import HandS.ExcIs
import HandS.Star
import PySem.Challenge.RW_keeprests_k53_errors_of_stands
set_option Elab.async false
set_option linter.all false
set_option maxRecDepth 100000
set_option maxHeartbeats 4000000
section
open PySem PySem.W PyProof.Rows
set_option maxHeartbeats 0 in
open_top headX for PySem.Challenge.rw_keeprests_k53_errors_of_stands
end
/-! PW1 -/
namespace PW
open PySem L2

/-- data: cel a the mutable list (a cell) at a; raw v any other value; exc a dd fs the exception at a, its dict at dd, its fields being ints -/
inductive D where
  | non | bl (b : Bool) | int (i : Int) | str (x : Str) | tup (ds : List D) | lst (ds : List D) | cel (a : Addr) | raw (v : V)
  | exc (a dd : Addr) (fs : List (Str × Int))
inductive Cell where
  | lst (ds : List D) | dct (kvs : List (Key × D)) | set (w : World) (f : Int → Bool) (n : Nat)
  /-- an instance of the class at C, its dict at dx -/
  | ins (C dx : Addr) (fs : List (Str × D))
abbrev Cells := List (Addr × Cell)
abbrev Slots := List (Option D)

mutual
inductive Rep (K : PySem.W.Frag) (F : Hp) : V → D → Prop
  | non : Rep K F .non .non
  | bl (b : Bool) : Rep K F (.bl b) (.bl b)
  | int (i : Int) : Rep K F (.int i) (.int i)
  | str (x : Str) : Rep K F (.str x) (.str x)
  | tup {a : Addr} {vs : List V} {ds : List D} : SqT K F a vs → Reps K F vs ds → Rep K F (.ref a) (.tup ds)
  | lst {a : Addr} {vs : List V} {ds : List D} : SqL K F a vs → Reps K F vs ds → Rep K F (.ref a) (.lst ds)
  | cel (a : Addr) : Rep K F (.ref a) (.cel a)
  | raw (v : V) : Rep K F v (.raw v)
  | exc (a dd : Addr) (fs : List (Str × Int)) : F dd = some (.xd (fs.map fun p => (p.1, V.int p.2))) → Rep K F (.ref a) (.exc a dd fs)
inductive Reps (K : PySem.W.Frag) (F : Hp) : List V → List D → Prop
  | nil : Reps K F [] []
  | cons {v : V} {vs : List V} {d : D} {ds : List D} : Rep K F v d → Reps K F vs ds → Reps K F (v :: vs) (d :: ds)
end

theorem Same.tup {K : PySem.W.Frag} {H H' : Hp} {a : Addr} {xs : List V} (e : Same H H') (h : SqT K H a xs) : SqT K H' a xs := by
  rcases h with (h | ⟨o, h⟩) | h
  · exact .inl (.inl (e _ _ h))
  · exact .inl (.inr ⟨o, e _ _ h⟩)
  · exact .inr h

section
variable {K : PySem.W.Frag} {F F' : Hp}
mutual
theorem Rep.mono (s : Same F F') : ∀ (d : D) (v : V), Rep K F v d → Rep K F' v d
  | .non, _, h => by cases h; exact .non
  | .bl _, _, h => by cases h; exact .bl _
  | .int _, _, h => by cases h; exact .int _
  | .str _, _, h => by cases h; exact .str _
  | .tup ds, _, h => by cases h with | tup a b => exact .tup (Same.tup s a) (Reps.mono s ds _ b)
  | .lst ds, _, h => by cases h with | lst a b => exact .lst (s.seq a) (Reps.mono s ds _ b)
  | .cel k, _, h => by cases h with | cel a => exact .cel _
  | .raw _, _, h => by cases h; exact .raw _
  | .exc _ _ _, _, h => by cases h with | exc _ _ _ e => exact .exc _ _ _ (s _ _ e)
theorem Reps.mono (s : Same F F') : ∀ (ds : List D) (vs : List V), Reps K F vs ds → Reps K F' vs ds
  | [], _, h => by cases h; exact .nil
  | d :: ds, _, h => by cases h with | cons a b => exact .cons (Rep.mono s d _ a) (Reps.mono s ds _ b)
end
theorem Rep.up {v : V} {d : D} (h : Rep K F v d) (s : Same F F') : Rep K F' v d := Rep.mono s d v h
theorem Reps.up {vs : List V} {ds : List D} (h : Reps K F vs ds) (s : Same F F') : Reps K F' vs ds := Reps.mono s ds vs h
theorem Reps.length : ∀ {vs : List V} {ds : List D}, Reps K F vs ds → vs.length = ds.length
  | _, [], h => by cases h; rfl
  | _, d :: ds, h => by cases h with | cons a b => simp [Reps.length b]
theorem Reps.get : ∀ {vs : List V} {ds : List D} {i : Nat} {d : D}, Reps K F vs ds → ds[i]? = some d → ∃ v, vs[i]? = some v ∧ Rep K F v d
  | _, [], i, d, h, e => by simp at e
  | _, d0 :: ds, 0, d, h, e => by
    cases h with | cons a b => simp at e; subst e; exact ⟨_, rfl, a⟩
  | _, d0 :: ds, i + 1, d, h, e => by
    cases h with
    | cons a b =>
      obtain ⟨v, h1, h2⟩ := Reps.get (i := i) b (by simpa using e)
      exact ⟨v, by simpa using h1, h2⟩
theorem Reps.get' : ∀ {vs : List V} {ds : List D} {i : Nat} {v : V}, Reps K F vs ds → vs[i]? = some v → ∃ d, ds[i]? = some d ∧ Rep K F v d
  | _, [], i, v, h, e => by cases h; simp at e
  | _, d0 :: ds, 0, v, h, e => by
    cases h with | cons a b => simp at e; subst e; exact ⟨_, rfl, a⟩
  | _, d0 :: ds, i + 1, v, h, e => by
    cases h with
    | cons a b =>
      obtain ⟨d, h1, h2⟩ := Reps.get' (i := i) b (by simpa using e)
      exact ⟨d, by simpa using h1, h2⟩
theorem Reps.append : ∀ {vs ws : List V} {ds es : List D}, Reps K F vs ds → Reps K F ws es → Reps K F (vs ++ ws) (ds ++ es)
  | _, _, [], es, h, g => by cases h; exact g
  | _, _, d :: ds, es, h, g => by cases h with | cons a b => exact .cons a (b.append g)
theorem Reps.take : ∀ {vs : List V} {ds : List D} (n : Nat), Reps K F vs ds → Reps K F (vs.take n) (ds.take n)
  | _, _, 0, _ => by simpa using Reps.nil
  | _, [], n + 1, h => by cases h; exact .nil
  | _, d :: ds, n + 1, h => by cases h with | cons a b => simpa using Reps.cons a (b.take n)
theorem Reps.drop : ∀ {vs : List V} {ds : List D} (n : Nat), Reps K F vs ds → Reps K F (vs.drop n) (ds.drop n)
  | _, _, 0, h => by simpa using h
  | _, [], n + 1, h => by cases h; exact .nil
  | _, d :: ds, n + 1, h => by cases h with | cons a b => simpa using b.drop n
theorem Reps.set : ∀ {vs : List V} {ds : List D} {v : V} {d : D} (n : Nat), Rep K F v d → Reps K F vs ds → Reps K F (vs.set n v) (ds.set n d)
  | _, [], _, _, n, r, h => by cases h; exact .nil
  | _, _ :: ds, _, _, 0, r, h => by cases h with | cons a b => exact .cons r b
  | _, _ :: ds, _, _, n + 1, r, h => by cases h with | cons a b => exact .cons a (b.set n r)
theorem Reps.replicate {vs : List V} {ds : List D} (h : Reps K F vs ds) : ∀ n : Nat, Reps K F (List.replicate n vs).flatten (List.replicate n ds).flatten
  | 0 => .nil
  | n + 1 => by simpa [List.replicate_succ] using h.append (h.replicate n)
theorem Reps.ints : ∀ (ns : List Int), Reps K F (ns.map V.int) (ns.map D.int)
  | [] => .nil
  | n :: ns => .cons (.int n) (Reps.ints ns)
theorem Reps.ints_inv : ∀ {ns : List Int} {vs : List V}, Reps K F vs (ns.map D.int) → vs = ns.map V.int
  | [], _, h => by cases h; rfl
  | n :: ns, _, h => by cases h with | cons a b => cases a; rw [Reps.ints_inv b]; rfl
theorem Reps.bls_inv : ∀ {ns : List Bool} {vs : List V}, Reps K F vs (ns.map D.bl) → vs = ns.map V.bl
  | [], _, h => by cases h; rfl
  | n :: ns, _, h => by cases h with | cons a b => cases a; rw [Reps.bls_inv b]; rfl
end


def KVs (K : PySem.W.Frag) (F : Hp) : List (Key × V) → List (Key × D) → Prop := Paired fun p q => p.1 = q.1 ∧ Rep K F p.2 q.2
theorem KVs.up {K : PySem.W.Frag} {F F' : Hp} (s : Same F F') : ∀ {xs : List (Key × V)} {ys : List (Key × D)}, KVs K F xs ys → KVs K F' xs ys
  | _, _, .nil => .nil
  | _, _, .cons h t => .cons ⟨h.1, h.2.up s⟩ (KVs.up s t)
def AVs (K : PySem.W.Frag) (F : Hp) : List (Str × V) → List (Str × D) → Prop := Paired fun p q => p.1 = q.1 ∧ Rep K F p.2 q.2
theorem AVs.up {K : PySem.W.Frag} {F F' : Hp} (s : Same F F') : ∀ {xs : List (Str × V)} {ys : List (Str × D)}, AVs K F xs ys → AVs K F' xs ys
  | _, _, .nil => .nil
  | _, _, .cons h t => .cons ⟨h.1, h.2.up s⟩ (AVs.up s t)
def CellIs (K : PySem.W.Frag) (F : Hp) (H : Hp) (a : Addr) : Cell → Prop
  | .lst ds => ∃ vs, H a = some (.lst vs) ∧ Reps K F vs ds
  | .dct kvs => ∃ xs, H a = some (.dK xs) ∧ KVs K F xs kvs
  | .set w f n => H a = some (SetO w a f n)
  | .ins C dx fs => (∃ vs, H a = some (.ins C dx vs) ∧ AVs K F vs fs) ∧ F dx = some (.own a)
structure Stt (K : PySem.W.Frag) (F : Hp) (M : Cells) (δ : Slots) (σ : L2.St) (H : Hp) : Prop where
  le : Same F H
  nd : (M.map Prod.fst).Nodup
  cell : ∀ p ∈ M, CellIs K F H p.1 p.2
  out : ∀ p ∈ M, F p.1 = none
  slot : ∀ (i : Nat) (d : D), δ[i]? = some (some d) → ∃ v, σ[i]? = some (some v) ∧ Rep K F v d
  dlen : δ.length = σ.length

section
variable {K : PySem.W.Frag} {F F' : Hp} {M M' : Cells} {δ : Slots} {σ : L2.St} {H H' : Hp}
theorem CellIs.mono (s : Same F F') {a : Addr} {c : Cell} (h : CellIs K F H a c) (e : H' a = H a) : CellIs K F' H' a c := by
  cases c with
  | lst ds => obtain ⟨vs, h1, h2⟩ := h; exact ⟨vs, e.trans h1, h2.up s⟩
  | dct kvs => obtain ⟨vs, h1, h2⟩ := h; exact ⟨vs, e.trans h1, KVs.up s h2⟩
  | set w f n => exact e.trans h
  | ins C dx fs => obtain ⟨⟨vs, h1, h2⟩, h3⟩ := h; exact ⟨⟨vs, e.trans h1, h2.up s⟩, s _ _ h3⟩
theorem CellIs.born {a : Addr} {c : Cell} (h : CellIs K F H a c) : H a ≠ none := by
  cases c with
  | lst ds => obtain ⟨vs, h1, h2⟩ := h; rw [h1]; simp
  | dct kvs => obtain ⟨vs, h1, h2⟩ := h; rw [h1]; simp
  | set w f n => exact fun z => by rw [show H a = _ from h] at z; cases z
  | ins C dx fs => obtain ⟨⟨vs, h1, h2⟩, h3⟩ := h; rw [h1]; simp
theorem Stt.cellAt (S : Stt K F M δ σ H) {a : Addr} {ds : List D} (h : (a, Cell.lst ds) ∈ M) : ∃ vs, H a = some (.lst vs) ∧ F a = none ∧ Reps K F vs ds := by
  obtain ⟨vs, h1, h2⟩ := S.cell _ h
  exact ⟨vs, h1, S.out _ h, h2⟩
theorem Stt.none_of (S : Stt K F M δ σ H) {a : Addr} (h : H a = none) : F a = none := by
  cases e : F a with
  | none => rfl
  | some u => rw [S.le a u e] at h; cases h
theorem Stt.ne_cell (S : Stt K F M δ σ H) {a : Addr} (h : H a = none) {p : Addr × Cell} (hp : p ∈ M) : p.1 ≠ a := fun z => (S.cell p hp).born (by rw [z]; exact h)
/-- a new object that is no cell, laid as frozen -/
theorem Stt.froz (S : Stt K F M δ σ H) {a : Addr} {o : HO} (h : H a = none) : Stt K (upd F a o) M δ σ (upd H a o) ∧ Same F (upd F a o) := by
  have fa : F a = none := S.none_of h
  have s : Same F (upd F a o) := fun b u e => by rw [upd_ne (ne_of_none e fa)]; exact e
  refine ⟨⟨fun b u e => ?_, S.nd, fun p hp => ?_, fun p hp => ?_, fun i d e => ?_, S.dlen⟩, s⟩
  · by_cases hb : b = a
    · subst hb; rw [upd_same] at e ⊢; exact e
    · rw [upd_ne hb] at e ⊢; exact S.le b u e
  · exact (S.cell p hp).mono s (by rw [upd_ne (S.ne_cell h hp)])
  · rw [upd_ne (S.ne_cell h hp)]; exact S.out p hp
  · obtain ⟨v, h1, h2⟩ := S.slot i d e
    exact ⟨v, h1, h2.up s⟩
/-- a new object, laid as a cell -/
theorem Stt.newCell (S : Stt K F M δ σ H) {a : Addr} {o : HO} {c : Cell} (h : H a = none) (hc : CellIs K F (upd H a o) a c) : Stt K F ((a, c) :: M) δ σ (upd H a o) := by
  have fa : F a = none := S.none_of h
  refine ⟨fun b u e => ?_, ?_, fun p hp => ?_, fun p hp => ?_, S.slot, S.dlen⟩
  · rw [upd_ne (ne_of_none e fa)]; exact S.le b u e
  · rw [List.map_cons, List.nodup_cons]
    refine ⟨fun hx => ?_, S.nd⟩
    obtain ⟨p, hp, e⟩ := List.mem_map.mp hx
    exact S.ne_cell h hp e
  · rcases List.mem_cons.mp hp with z | z
    · subst z; exact hc
    · exact (S.cell p z).mono (Same.refl _) (by rw [upd_ne (S.ne_cell h z)])
  · rcases List.mem_cons.mp hp with z | z
    · subst z; exact fa
    · exact S.out p z
theorem getElem?_set_cases {α : Type} {l : List α} {k j : Nat} {x y : α} (h : (l.set k x)[j]? = some y) : (j = k ∧ y = x) ∨ (j ≠ k ∧ l[j]? = some y) := by
  by_cases e : k = j
  · subst e
    have := (List.getElem?_eq_some_iff.mp h).1
    rw [List.getElem?_set_self (by simpa using this)] at h
    exact .inl ⟨rfl, (Option.some.inj h).symm⟩
  · rw [List.getElem?_set_ne e] at h
    exact .inr ⟨fun z => e z.symm, h⟩
theorem mem_set_cases {α : Type} {l : List α} {k : Nat} {x y : α} (h : y ∈ l.set k x) : y = x ∨ ∃ j, j ≠ k ∧ l[j]? = some y := by
  obtain ⟨j, e⟩ := List.getElem?_of_mem h
  rcases getElem?_set_cases e with ⟨_, h2⟩ | h
  · exact .inl h2
  · exact .inr ⟨j, h⟩
theorem ix_ne {M : Cells} (nd : (M.map Prod.fst).Nodup) {k j : Nat} {p q : Addr × Cell} (h : M[k]? = some p) (g : M[j]? = some q) (hne : j ≠ k) : q.1 ≠ p.1 := fun z => hne (nd_ix nd (a := by
    show (M.map Prod.fst)[j]? = some q.1
    rw [List.getElem?_map, g]; rfl) (b := by
    show (M.map Prod.fst)[k]? = some q.1
    rw [List.getElem?_map, h, z]; rfl))
/-- a cell changes -/
theorem Stt.setCell (S : Stt K F M δ σ H) {k : Nat} {a : Addr} {c c' : Cell} {o : HO} (hk : M[k]? = some (a, c)) (hc : CellIs K F (upd H a o) a c') : Stt K F (M.set k (a, c')) δ σ (upd H a o) := by
  have fa : F a = none := S.out _ (List.mem_of_getElem? hk)
  refine ⟨fun b u e => ?_, ?_, fun p hp => ?_, fun p hp => ?_, S.slot, S.dlen⟩
  · rw [upd_ne (ne_of_none e fa)]; exact S.le b u e
  · have e : (M.set k (a, c')).map Prod.fst = M.map Prod.fst := by
      rw [List.map_set]
      refine List.ext_getElem? fun i => ?_
      by_cases hi : k = i
      · subst hi
        have hl := (List.getElem?_eq_some_iff.mp hk).1
        rw [List.getElem?_set_self (by simpa using hl), List.getElem?_map, hk]; rfl
      · rw [List.getElem?_set_ne hi]
    rw [e]; exact S.nd
  · rcases mem_set_cases hp with rfl | ⟨j, hj, e⟩
    · exact hc
    · exact (S.cell p (List.mem_of_getElem? e)).mono (Same.refl _) (by rw [upd_ne (ix_ne S.nd hk e hj)])
  · rcases mem_set_cases hp with rfl | ⟨j, hj, e⟩
    · exact fa
    · exact S.out p (List.mem_of_getElem? e)
/-- a slot is set -/
theorem Stt.setSlot (S : Stt K F M δ σ H) {i : Nat} {v : V} {d : D} (r : Rep K F v d) : Stt K F M (δ.set i (some d)) (σ.set i (some v)) H := by
  refine ⟨S.le, S.nd, S.cell, S.out, fun j e h => ?_, by simp [S.dlen]⟩
  have hj : j < δ.length := by have := (List.getElem?_eq_some_iff.mp h).1; simpa using this
  rcases getElem?_set_cases h with ⟨h1, h2⟩ | ⟨h1, h2⟩
  · subst h1; cases h2
    exact ⟨v, by rw [List.getElem?_set_self (by rw [← S.dlen]; exact hj)], r⟩
  · obtain ⟨w, e1, e2⟩ := S.slot j e h2
    exact ⟨w, by rw [List.getElem?_set_ne (fun z => h1 z.symm)]; exact e1, e2⟩
/-- less is known of the slots -/
theorem Stt.slots {δ' : Slots} {σ' : L2.St} (S : Stt K F M δ σ H) (hl : δ'.length = σ'.length) (h : ∀ (i : Nat) (d : D), δ'[i]? = some (some d) → ∃ v, σ'[i]? = some (some v) ∧ Rep K F v d) : Stt K F M δ' σ' H :=
  ⟨S.le, S.nd, S.cell, S.out, h, hl⟩
theorem Stt.keep {F0 : Hp} {δ' : Slots} {σ' : L2.St} {M0 : Cells} {H0 : Hp} (S : Stt K F M δ σ H) (S0 : Stt K F0 M0 δ' σ' H0) (s : Same F0 F) : Stt K F M δ' σ' H :=
  S.slots S0.dlen fun i d e => let ⟨v, h1, h2⟩ := S0.slot i d e; ⟨v, h1, h2.up s⟩
/-- cells are forgotten (not frozen: they are no longer known at all) -/
theorem Stt.fewer (S : Stt K F M δ σ H) (h : M'.Sublist M) : Stt K F M' δ σ H :=
  ⟨S.le, S.nd.sublist (h.map _), fun p hp => S.cell p (h.subset hp), fun p hp => S.out p (h.subset hp), S.slot, S.dlen⟩
/-- a cell is frozen -/
theorem Stt.freeze (S : Stt K F M δ σ H) {k : Nat} {a : Addr} {ds : List D} (h : M[k]? = some (a, .lst ds)) :
    ∃ F', Same F F' ∧ Stt K F' (M.eraseIdx k) δ σ H ∧ Rep K F' (.ref a) (.lst ds) := by
  obtain ⟨vs, hH, fa, r⟩ := S.cellAt (List.mem_of_getElem? h)
  have s : Same F (upd F a (.lst vs)) := fun b u e => by rw [upd_ne (ne_of_none e fa)]; exact e
  have ne : ∀ p ∈ M.eraseIdx k, p.1 ≠ a := fun p hp => by
    obtain ⟨j, e⟩ := List.getElem?_of_mem hp
    rw [List.getElem?_eraseIdx] at e
    split at e
    · exact ix_ne S.nd h e (by omega)
    · exact ix_ne S.nd h e (by omega)
  have sub : ∀ p ∈ M.eraseIdx k, p ∈ M := fun p hp => (List.eraseIdx_sublist M k).subset hp
  refine ⟨upd F a (.lst vs), s, ⟨fun b u e => ?_, S.nd.sublist ((List.eraseIdx_sublist M k).map _), fun p hp => (S.cell p (sub p hp)).mono s rfl, fun p hp => ?_, fun i d e => ?_, S.dlen⟩, .lst (.of upd_same) (r.up s)⟩
  · by_cases hb : b = a
    · subst hb; rw [upd_same] at e; rw [hH]; exact e
    · rw [upd_ne hb] at e; exact S.le b u e
  · rw [upd_ne (ne p hp)]; exact S.out p (sub p hp)
  · obtain ⟨v, h1, h2⟩ := S.slot i d e
    exact ⟨v, h1, h2.up s⟩
end

/-- d is a list, frozen or a cell -/
def LV (M : Cells) (d : D) (ds : List D) : Prop := d = .lst ds ∨ ∃ (k : Nat) (a : Addr), d = .cel a ∧ M[k]? = some (a, .lst ds)
theorem LV.l {M : Cells} {ds : List D} : LV M (.lst ds) ds := .inl rfl
theorem LV.c {M : Cells} {a : Addr} {ds : List D} (k : Nat) (h : M[k]? = some (a, .lst ds)) : LV M (.cel a) ds := .inr ⟨k, a, rfl, h⟩
section
variable {K : PySem.W.Frag} {F : Hp} {M : Cells} {δ : Slots} {σ : L2.St} {H : Hp}
theorem Stt.readL (S : Stt K F M δ σ H) {v : V} {d : D} {ds : List D} (r : Rep K F v d) (h : LV M d ds) : ∃ a vs, v = .ref a ∧ SqL K H a vs ∧ Reps K F vs ds := by
  rcases h with rfl | ⟨k, a, rfl, h⟩
  · cases r with | lst a b => exact ⟨_, _, rfl, S.le.seq a, b⟩
  · cases r
    obtain ⟨vs, h1, h2, h3⟩ := S.cellAt (List.mem_of_getElem? h)
    exact ⟨_, vs, rfl, .of h1, h3⟩
theorem Stt.readT (S : Stt K F M δ σ H) {v : V} {ds : List D} (r : Rep K F v (.tup ds)) : ∃ a vs, v = .ref a ∧ SqT K H a vs ∧ Reps K F vs ds := by
  cases r with | tup a b => exact ⟨_, _, rfl, Same.tup S.le a, b⟩
end
end PW
/-! PW2 -/
namespace PW
open PySem L2 PyProof.Rows

structure Ex where
  cls : Addr
  fs : List (Str × D)
abbrev XP := Ex → Slots → Cells → Prop
def PX0 : XP := fun _ _ _ => False
def FsIs (K : PySem.W.Frag) (F : Hp) : List (Str × V) → List (Str × D) → Prop := Paired fun p q => p.1 = q.1 ∧ Rep K F p.2 q.2
def ExIs (K : PySem.W.Frag) (F H : Hp) (cls : Value) (d : Option Addr) (x : Ex) : Prop :=
  cls = .ref x.cls ∧ ((x.fs = [] ∧ d = none) ∨ ∃ dd vs, d = some dd ∧ H dd = some (.xd vs) ∧ FsIs K F vs x.fs)
def upX (K : PySem.W.Frag) (F : Hp) (P : XP) (cls : Value) (d : Option Addr) (σ' : L2.St) (H' : Hp) : Prop :=
  ∃ F' M' δ' x, Same F F' ∧ Stt K F' M' δ' σ' H' ∧ ExIs K F' H' cls d x ∧ P x δ' M'
def TakesP (X : Cx) (P : XP) (F : Hp) : Prop := ∃ W : WX, Takes X W ∧ ∀ cls d σ' H', upX X.K F P cls d σ' H' → W cls d σ' H'
theorem TakesP.up {X : Cx} {P : XP} {F F' : Hp} (t : TakesP X P F) (s : Same F F') : TakesP X P F' :=
  let ⟨W, h, k⟩ := t; ⟨W, h, fun cls d σ' H' ⟨F2, M2, δ2, x, s2, r⟩ => k cls d σ' H' ⟨F2, M2, δ2, x, s.trans s2, r⟩⟩
theorem TakesP.none {X : Cx} {F : Hp} : TakesP X PX0 F := ⟨fun _ _ _ _ => False, fun _ _ x => by
  obtain ⟨_, _, _, _, _, _, _, _, _, _, _, _, _, _, _, _, z⟩ := x
  exact z.elim, fun _ _ _ _ ⟨_, _, _, _, _, _, _, z⟩ => z.elim⟩
structure Go (X : Cx) (P : XP) (F : Hp) (M : Cells) (δ : Slots) (σ : L2.St) (H : Hp) : Prop where
  st : Stt X.K F M δ σ H
  tk : TakesP X P F

def upE (K : PySem.W.Frag) (F : Hp) (δ : Slots) (σ : L2.St) (Q : D → Cells → Prop) : VK := fun v H' => ∃ F' M' d, Same F F' ∧ Stt K F' M' δ σ H' ∧ Rep K F' v d ∧ Q d M'
def upT (K : PySem.W.Frag) (F : Hp) (δ : Slots) (σ : L2.St) (Q : Bool → Cells → Prop) : Bool → Hp → Prop := fun b H' => ∃ F' M', Same F F' ∧ Stt K F' M' δ σ H' ∧ Q b M'
def upA (K : PySem.W.Frag) (F : Hp) (δ : Slots) (σ : L2.St) (Q : List D → Cells → Prop) : List V → Hp → Prop := fun vs H' => ∃ F' M' ds, Same F F' ∧ Stt K F' M' δ σ H' ∧ Reps K F' vs ds ∧ Q ds M'
def tE (X : Cx) (e : Expr) : TE := fun σ H Q => ∀ pins s, Inv X pins σ H s → wpAny (model X.prog X.w) X.A (eval e X.env) (EP X pins σ Q) X.xe s
def tT (X : Cx) (e : Expr) : TT := fun σ H Q => ∀ pins s, Inv X pins σ H s → wpAny (model X.prog X.w) X.A (isTrue e X.env (eval e X.env)) (TP X pins σ Q) X.xe s
def tW (X : Cx) (e : Expr) : TT := fun σ H Q => ∀ whole pins s, Inv X pins σ H s → wpAny (model X.prog X.w) X.A (isTrue e X.env whole) (TP X pins σ Q) X.xe s
def tA (X : Cx) (es : List Expr) : TA := fun σ H Q => ∀ (pos : Pos) pins s, Inv X pins σ H s → wpAny (model X.prog X.w) X.A (spliced (backTo pos (starEach es X.env))) (AP X pins σ Q) X.xe s
theorem pe_sem {X : Cx} {e : Expr} : PE X e (tE X e) := ⟨fun pins s _ _ _ I h => h pins s I⟩
theorem pt_sem {X : Cx} {e : Expr} : PT X e (tT X e) := ⟨fun pins s _ _ _ I h => h pins s I⟩
theorem pw_sem {X : Cx} {e : Expr} : PW X e (tW X e) := ⟨fun w pins s _ _ _ I h => h w pins s I⟩
theorem pa_sem {X : Cx} {es : List Expr} : PA X es (tA X es) := ⟨fun pos pins s _ _ _ I h => h pos pins s I⟩
def WE (X : Cx) (P : XP) (e : Expr) (δ : Slots) (M : Cells) (Q : D → Cells → Prop) : Prop := ∀ σ H F, Go X P F M δ σ H → tE X e σ H (upE X.K F δ σ Q)
def WT (X : Cx) (P : XP) (e : Expr) (δ : Slots) (M : Cells) (Q : Bool → Cells → Prop) : Prop := ∀ σ H F, Go X P F M δ σ H → tT X e σ H (upT X.K F δ σ Q)
def WW (X : Cx) (P : XP) (e : Expr) (δ : Slots) (M : Cells) (Q : Bool → Cells → Prop) : Prop := ∀ σ H F, Go X P F M δ σ H → tW X e σ H (upT X.K F δ σ Q)
def WA (X : Cx) (P : XP) (es : List Expr) (δ : Slots) (M : Cells) (Q : List D → Cells → Prop) : Prop := ∀ σ H F, Go X P F M δ σ H → tA X es σ H (upA X.K F δ σ Q)

section
variable {X : Cx} {P : XP} {F : Hp} {M : Cells} {δ : Slots} {σ : L2.St} {H : Hp} {e a b c : Expr} {es : List Expr} {pos : Pos}
theorem EP.mono {pins : List (Addr × Obj)} {Q Q' : VK} (k : ∀ v H', Q v H' → Q' v H') {u : Value} {s : Shared} (h : EP X pins σ Q u s) : EP X pins σ Q' u s :=
  let ⟨v, H', I, r, q⟩ := h; ⟨v, H', I, r, k v H' q⟩
theorem tE.mono {Q Q' : VK} (h : tE X e σ H Q) (k : ∀ v H', Q v H' → Q' v H') : tE X e σ H Q' := fun pins s I => thn (h pins s I) fun _ _ q => EP.mono k q
theorem tT.mono {Q Q' : Bool → Hp → Prop} (h : tT X e σ H Q) (k : ∀ v H', Q v H' → Q' v H') : tT X e σ H Q' := fun pins s I => thn (h pins s I) fun _ _ ⟨H', I', q⟩ => ⟨H', I', k _ _ q⟩
theorem tW.mono {Q Q' : Bool → Hp → Prop} (h : tW X e σ H Q) (k : ∀ v H', Q v H' → Q' v H') : tW X e σ H Q' := fun w pins s I => thn (h w pins s I) fun _ _ ⟨H', I', q⟩ => ⟨H', I', k _ _ q⟩
theorem tA.mono {Q Q' : List V → Hp → Prop} (h : tA X es σ H Q) (k : ∀ v H', Q v H' → Q' v H') : tA X es σ H Q' := fun pos pins s I => thn (h pos pins s I) fun _ _ ⟨vs, H', I', r, q⟩ => ⟨vs, H', I', r, k _ _ q⟩
theorem WE.go {Q : D → Cells → Prop} (h : WE X P e δ M Q) (G : Go X P F M δ σ H) {Q' : VK} (k : ∀ v H' F' M' d, Same F F' → Go X P F' M' δ σ H' → Rep X.K F' v d → Q d M' → Q' v H') : tE X e σ H Q' :=
  (h σ H F G).mono fun v H' ⟨F', M', d, s, S, r, q⟩ => k v H' F' M' d s ⟨S, G.tk.up s⟩ r q
theorem WT.go {Q : Bool → Cells → Prop} (h : WT X P e δ M Q) (G : Go X P F M δ σ H) {Q' : Bool → Hp → Prop} (k : ∀ v H' F' M', Same F F' → Go X P F' M' δ σ H' → Q v M' → Q' v H') : tT X e σ H Q' :=
  (h σ H F G).mono fun v H' ⟨F', M', s, S, q⟩ => k v H' F' M' s ⟨S, G.tk.up s⟩ q
theorem WW.go {Q : Bool → Cells → Prop} (h : WW X P e δ M Q) (G : Go X P F M δ σ H) {Q' : Bool → Hp → Prop} (k : ∀ v H' F' M', Same F F' → Go X P F' M' δ σ H' → Q v M' → Q' v H') : tW X e σ H Q' :=
  (h σ H F G).mono fun v H' ⟨F', M', s, S, q⟩ => k v H' F' M' s ⟨S, G.tk.up s⟩ q
theorem WA.go {Q : List D → Cells → Prop} (h : WA X P es δ M Q) (G : Go X P F M δ σ H) {Q' : List V → Hp → Prop} (k : ∀ vs H' F' M' ds, Same F F' → Go X P F' M' δ σ H' → Reps X.K F' vs ds → Q ds M' → Q' vs H') : tA X es σ H Q' :=
  (h σ H F G).mono fun v H' ⟨F', M', d, s, S, r, q⟩ => k v H' F' M' d s ⟨S, G.tk.up s⟩ r q
theorem we_of {t : TE} {Q : D → Cells → Prop} (p : PE X e t) (h : ∀ σ H F, Go X P F M δ σ H → t σ H (upE X.K F δ σ Q)) : WE X P e δ M Q := fun σ H F G pins s I => p.run pins s σ H _ I (h σ H F G)
theorem wt_of {t : TT} {Q : Bool → Cells → Prop} (p : PT X e t) (h : ∀ σ H F, Go X P F M δ σ H → t σ H (upT X.K F δ σ Q)) : WT X P e δ M Q := fun σ H F G pins s I => p.run pins s σ H _ I (h σ H F G)
theorem ww_of {t : TT} {Q : Bool → Cells → Prop} (p : PW X e t) (h : ∀ σ H F, Go X P F M δ σ H → t σ H (upT X.K F δ σ Q)) : WW X P e δ M Q := fun σ H F G w pins s I => p.run w pins s σ H _ I (h σ H F G)
theorem wa_of {t : TA} {Q : List D → Cells → Prop} (p : PA X es t) (h : ∀ σ H F, Go X P F M δ σ H → t σ H (upA X.K F δ σ Q)) : WA X P es δ M Q := fun σ H F G pos pins s I => p.run pos pins s σ H _ I (h σ H F G)
theorem ret {K : PySem.W.Frag} {F0 F : Hp} {δ : Slots} {σ : L2.St} {H : Hp} {M : Cells} {Q : D → Cells → Prop} {v : V} {d : D} (S : Stt K F M δ σ H) (s : Same F0 F) (r : Rep K F v d) (q : Q d M) : upE K F0 δ σ Q v H := ⟨F, M, d, s, S, r, q⟩
theorem WE.imp {Q Q' : D → Cells → Prop} (h : WE X P e δ M Q) (k : ∀ d M', Q d M' → Q' d M') : WE X P e δ M Q' := fun σ H F G => h.go G fun v H' F' M' d s G' r q => ret G'.st s r (k d M' q)
theorem WT.imp {Q Q' : Bool → Cells → Prop} (h : WT X P e δ M Q) (k : ∀ d M', Q d M' → Q' d M') : WT X P e δ M Q' := fun σ H F G => h.go G fun v H' F' M' s G' q => ⟨F', M', s, G'.st, k _ _ q⟩
theorem we_name {i : Nat} {x : Str} {Q : D → Cells → Prop} {d : D} (hN : X.N[i]? = some x) (hv : Vis X.env.scope x) (hd : δ[i]? = some (some d)) (h : Q d M) (h1 : (x == ("__debug__" : Str)) = false := by decide) (h2 : (x == ("__classdict__" : Str)) = false := by decide) : WE X P (.Name x pos) δ M Q :=
  we_of (pe_var hN hv h1 h2) fun σ H F G => let ⟨v, h1, h2⟩ := G.st.slot i d hd; ⟨v, h1, ret G.st (Same.refl _) h2 h⟩
theorem we_int {i : Int} {j} {Q : D → Cells → Prop} (h : Q (.int i) M) : WE X P (.Constant (.int i) j pos) δ M Q := we_of pe_int fun σ H F G => ret G.st (Same.refl _) (.int i) h
theorem we_bl {i : Bool} {j} {Q : D → Cells → Prop} (h : Q (.bl i) M) : WE X P (.Constant (.bool i) j pos) δ M Q := we_of pe_bl fun σ H F G => ret G.st (Same.refl _) (.bl i) h
theorem we_non {j} {Q : D → Cells → Prop} (h : Q .non M) : WE X P (.Constant .none j pos) δ M Q := we_of pe_non fun σ H F G => ret G.st (Same.refl _) .non h
theorem we_str {x : Str} {j} {Q : D → Cells → Prop} (h : Q (.str x) M) : WE X P (.Constant (.str x) j pos) δ M Q := we_of pe_str fun σ H F G => ret G.st (Same.refl _) (.str x) h
/-- a module's constant -/
theorem we_glob {x : Str} {d : D} {v : V} {u : Value} {Q : D → Cells → Prop} (hg : Gl X x) (hm : X.mg x = some u) (r : RelV v u) (rd : ∀ K F, Rep K F v d) (h : Q d M) (hd : (x == ("__debug__" : Str)) = false := by decide) : WE X P (.Name x pos) δ M Q :=
  we_of (pe_glob hg hm r hd) fun σ H F G => ret G.st (Same.refl _) (rd _ _) h
/-- a built-in class or function as a value -/
theorem we_bltn {x : Str} {v : V} {u : Value} {Q : D → Cells → Prop} (hg : Gl X x) (hm : X.mg x = none) (hv : bootBuiltins x = some u) (r : RelV v u) (h : Q (.raw v) M) (hn : x ≠ "__name__" := by decide) (hd : (x == ("__debug__" : Str)) = false := by decide) : WE X P (.Name x pos) δ M Q :=
  we_of (pe_bltn hg hm hv r hn hd) fun σ H F G => ret G.st (Same.refl _) (.raw v) h

abbrev RD2 := D → D → Cells → (D → Cells → Prop) → Prop
def Lift2 (X : Cx) (r : R2) (R : RD2) : Prop := ∀ {F0 F : Hp} {M : Cells} {δ : Slots} {σ : L2.St} {H : Hp} {x y : V} {d e : D} {Q : D → Cells → Prop} {Q' : VK}, (∀ v H', upE X.K F0 δ σ Q v H' → Q' v H') → Same F0 F → Stt X.K F M δ σ H → Rep X.K F x d → Rep X.K F y e → R d e M Q → r x y H Q'
abbrev RD1 := D → Cells → (D → Cells → Prop) → Prop
def Lift1 (X : Cx) (r : V → Hp → VK → Prop) (R : RD1) : Prop := ∀ {F0 F : Hp} {M : Cells} {δ : Slots} {σ : L2.St} {H : Hp} {x : V} {d : D} {Q : D → Cells → Prop} {Q' : VK}, (∀ v H', upE X.K F0 δ σ Q v H' → Q' v H') → Same F0 F → Stt X.K F M δ σ H → Rep X.K F x d → R d M Q → r x H Q'
abbrev RDA := List D → Cells → (D → Cells → Prop) → Prop
def LiftA (X : Cx) (r : List V → Hp → VK → Prop) (R : RDA) : Prop := ∀ {F0 F : Hp} {M : Cells} {δ : Slots} {σ : L2.St} {H : Hp} {xs : List V} {ds : List D} {Q : D → Cells → Prop} {Q' : VK}, (∀ v H', upE X.K F0 δ σ Q v H' → Q' v H') → Same F0 F → Stt X.K F M δ σ H → Reps X.K F xs ds → R ds M Q → r xs H Q'
theorem bind2 {ea eb : Expr} {R : RD2} {r : R2} {Q : D → Cells → Prop} {Q' : VK} (k : ∀ v H', upE X.K F δ σ Q v H' → Q' v H') (L : Lift2 X r R) (h : WE X P ea δ M fun d M1 => WE X P eb δ M1 fun e M2 => R d e M2 Q) (G : Go X P F M δ σ H) : tOp r (tE X ea) (tE X eb) σ H Q' :=
  h.go G fun v H1 F1 M1 d s1 G1 r1 q1 => q1.go G1 fun u H2 F2 M2 e s2 G2 r2 q2 => L k (s1.trans s2) G2.st (r1.up s2) r2 q2
theorem we_op {op : Operator} {r : R2} {R : RD2} {Q : D → Cells → Prop} (ho : OpR X (binaryOp op) r) (L : Lift2 X r R) (h : WE X P a δ M fun d M1 => WE X P b δ M1 fun e M2 => R d e M2 Q) : WE X P (.BinOp a op b pos) δ M Q :=
  we_of (pe_op ho pe_sem pe_sem) fun σ H F G => bind2 (fun _ _ z => z) L h G
theorem we_un {op : UnaryOp} {r : V → Hp → VK → Prop} {R : RD1} {Q : D → Cells → Prop} (ho : UnR X (unaryOp op) r) (L : Lift1 X r R) (h : WE X P a δ M fun d M1 => R d M1 Q) : WE X P (.UnaryOp op a pos) δ M Q :=
  we_of (pe_un ho pe_sem) fun σ H F G => h.go G fun v H1 F1 M1 d s1 G1 r1 q1 => L (fun _ _ z => z) s1 G1.st r1 q1
theorem we_cmp {op : CmpOp} {r : R2} {R : RD2} {Q : D → Cells → Prop} (ho : OpR X (compareOp op) r) (L : Lift2 X r R) (hm : behindInMarks op b = false) (h : WE X P a δ M fun d M1 => WE X P b δ M1 fun e M2 => R d e M2 Q) : WE X P (.Compare a [op] [b] pos) δ M Q :=
  we_of (pe_cmpR ho pe_sem pe_sem hm) fun σ H F G => bind2 (fun _ _ z => z) L h G
/-- what comes is a bool -/
def onB (Q : Bool → Cells → Prop) : D → Cells → Prop := fun d M => ∃ k, d = .bl k ∧ Q k M
theorem onB_up {K : PySem.W.Frag} {F : Hp} {δ : Slots} {σ : L2.St} {H : Hp} {Q : Bool → Cells → Prop} {v : V} (h : upE K F δ σ (onB Q) v H) : ∃ k, v = .bl k ∧ upT K F δ σ Q k H := by
  obtain ⟨F', M', d, s, S, r, k, rfl, q⟩ := h
  cases r
  exact ⟨k, rfl, F', M', s, S, q⟩
theorem wt_cmp {op : CmpOp} {r : R2} {R : RD2} {Q : Bool → Cells → Prop} (ho : OpR X (compareOp op) r) (L : Lift2 X r R) (hm : behindInMarks op b = false) (h : WE X P a δ M fun d M1 => WE X P b δ M1 fun e M2 => R d e M2 (onB Q)) : WT X P (.Compare a [op] [b] pos) δ M Q :=
  wt_of (pt_cmpR ho pe_sem pe_sem hm) fun σ H F G => bind2 (fun _ _ z => onB_up z) L h G
theorem bind3 {ea eb ec : Expr} {R R' : RD2} {r r' : R2} {Q : D → Cells → Prop} {Q' : VK} (k : ∀ v H', upE X.K F δ σ Q v H' → Q' v H') (L : Lift2 X r R) (L' : Lift2 X r' R')
    (h : WE X P ea δ M fun d M1 => WE X P eb δ M1 fun e M2 => R d e M2 fun z M3 => ∃ b, z = .bl b ∧ if b = true then WE X P ec δ M3 fun f M4 => R' e f M4 Q else Q (.bl false) M3) (G : Go X P F M δ σ H) : tChain r r' (tE X ea) (tE X eb) (tE X ec) σ H Q' :=
  h.go G fun v H1 F1 M1 d s1 G1 r1 q1 => q1.go G1 fun u H2 F2 M2 e s2 G2 r2 q2 => L (fun v3 H3 z => by
    obtain ⟨F3, M3, d3, s3, S3, r3, b, rfl, q3⟩ := z
    cases r3
    refine ⟨b, rfl, ?_⟩
    have s03 : Same F F3 := (s1.trans s2).trans s3
    cases b with
    | false => rw [if_neg (by decide)] at q3 ⊢; exact k _ _ ⟨F3, M3, _, s03, S3, .bl _, q3⟩
    | true =>
      rw [if_pos rfl] at q3 ⊢
      exact q3.go ⟨S3, G2.tk.up s3⟩ fun w H4 F4 M4 f s4 G4 r4 q4 => L' k (s03.trans s4) G4.st (r2.up (s3.trans s4)) r4 q4) (Same.refl F2) G2.st (r1.up s2) r2 q2
theorem we_chain {op op' : CmpOp} {R R' : RD2} {r r' : R2} {Q : D → Cells → Prop} (ho : OpR X (compareOp op) r) (ho' : OpR X (compareOp op') r') (L : Lift2 X r R) (L' : Lift2 X r' R')
    (h : WE X P a δ M fun d M1 => WE X P b δ M1 fun e M2 => R d e M2 fun z M3 => ∃ k, z = .bl k ∧ if k = true then WE X P c δ M3 fun f M4 => R' e f M4 Q else Q (.bl false) M3)
    (hm : lastMarks [op, op'] [b, c] = false := by with_unfolding_all rfl) : WE X P (.Compare a [op, op'] [b, c] pos) δ M Q :=
  we_of (pe_chain ho ho' pe_sem pe_sem pe_sem hm) fun σ H F G => bind3 (fun _ _ z => z) L L' h G
theorem wt_val {Q : Bool → Cells → Prop} (h : WE X P e δ M (onB Q)) (he : ∀ whole, isTrue e X.env whole = (do let v ← whole; standAt e.pos; holding [v] (truthy v)) := by intro _; rfl) : WT X P e δ M Q :=
  wt_of (pt_val pe_sem he) fun σ H F G => h.go G fun v H' F' M' d s G' r q => onB_up (ret G'.st s r q)
theorem wt_not {Q : Bool → Cells → Prop} (h : WT X P a δ M fun k M' => Q (!k) M') : WT X P (.UnaryOp .Not a pos) δ M Q :=
  wt_of (pt_not pt_sem) fun σ H F G => h.go G fun v H' F' M' s G' q => ⟨F', M', s, G'.st, q⟩
theorem ww_wt {Q : Bool → Cells → Prop} (h : WW X P e δ M Q) : WT X P e δ M Q := wt_of pw_sem.pt h
theorem ww_and1 {Q : Bool → Cells → Prop} (h : WT X P a δ M Q) : WW X P (.BoolOp .And [a] pos) δ M Q := ww_of (pw_and1 pt_sem) h
theorem ww_or1 {Q : Bool → Cells → Prop} (h : WT X P a δ M Q) : WW X P (.BoolOp .Or [a] pos) δ M Q := ww_of (pw_or1 pt_sem) h
theorem ww_and {Q : Bool → Cells → Prop} (h : WT X P a δ M fun k M' => if k = true then WW X P (.BoolOp .And (b :: es) pos) δ M' Q else Q false M') : WW X P (.BoolOp .And (a :: b :: es) pos) δ M Q :=
  ww_of (pw_and pt_sem pw_sem) fun σ H F G => h.go G fun v H' F' M' s G' q => by
    cases v with
    | true => rw [if_pos rfl] at q ⊢; exact q.go G' fun _ _ F2 M2 s2 G2 q2 => ⟨F2, M2, s.trans s2, G2.st, q2⟩
    | false => rw [if_neg (by decide)] at q ⊢; exact ⟨F', M', s, G'.st, q⟩
theorem ww_or {Q : Bool → Cells → Prop} (h : WT X P a δ M fun k M' => if k = true then Q true M' else WW X P (.BoolOp .Or (b :: es) pos) δ M' Q) : WW X P (.BoolOp .Or (a :: b :: es) pos) δ M Q :=
  ww_of (pw_or pt_sem pw_sem) fun σ H F G => h.go G fun v H' F' M' s G' q => by
    cases v with
    | true => rw [if_pos rfl] at q ⊢; exact ⟨F', M', s, G'.st, q⟩
    | false => rw [if_neg (by decide)] at q ⊢; exact q.go G' fun _ _ F2 M2 s2 G2 q2 => ⟨F2, M2, s.trans s2, G2.st, q2⟩
theorem we_one {op} {Q : D → Cells → Prop} (h : WE X P a δ M Q) : WE X P (.BoolOp op [a] pos) δ M Q := we_of (pe_one pe_sem) h
theorem we_and {Q : D → Cells → Prop} (h : WE X P a δ M fun d M' => ∃ k, d = .bl k ∧ if k = true then WE X P (.BoolOp .And (b :: es) pos) δ M' Q else Q (.bl false) M') : WE X P (.BoolOp .And (a :: b :: es) pos) δ M Q :=
  we_of (pe_and pe_sem pe_sem) fun σ H F G => h.go G fun v H' F' M' d s G' r q => by
    obtain ⟨k, rfl, q⟩ := q
    cases r
    refine ⟨k, rfl, ?_⟩
    cases k with
    | true => rw [if_pos rfl] at q ⊢; exact q.go G' fun _ _ F2 M2 _ s2 G2 r2 q2 => ret G2.st (s.trans s2) r2 q2
    | false => rw [if_neg (by decide)] at q ⊢; exact ret G'.st s (.bl _) q
theorem we_not {Q : D → Cells → Prop} (h : WE X P a δ M fun d M' => ∃ k, d = .bl k ∧ Q (.bl (!k)) M') : WE X P (.UnaryOp .Not a pos) δ M Q :=
  we_of (pe_not pe_sem) fun σ H F G => h.go G fun v H' F' M' d s G' r q => by
    obtain ⟨k, rfl, q⟩ := q
    cases r
    exact ⟨k, rfl, ret G'.st s (.bl _) q⟩
theorem we_if {Q : D → Cells → Prop} (h : WT X P c δ M fun k M' => if k = true then WE X P a δ M' Q else WE X P b δ M' Q) : WE X P (.IfExp c a b pos) δ M Q :=
  we_of (pe_ifExp pt_sem pe_sem pe_sem) fun σ H F G => h.go G fun v H' F' M' s G' q => by
    cases v with
    | true => rw [if_pos rfl] at q ⊢; exact q.go G' fun _ _ F2 M2 _ s2 G2 r2 q2 => ret G2.st (s.trans s2) r2 q2
    | false => rw [if_neg (by decide)] at q ⊢; exact q.go G' fun _ _ F2 M2 _ s2 G2 r2 q2 => ret G2.st (s.trans s2) r2 q2

theorem wa_nil {Q : List D → Cells → Prop} (h : Q [] M) : WA X P [] δ M Q := wa_of pa_nil fun σ H F G => ⟨F, M, [], Same.refl _, G.st, .nil, h⟩
theorem wa_cons {Q : List D → Cells → Prop} (h : WE X P e δ M fun d M1 => WA X P es δ M1 fun ds M2 => Q (d :: ds) M2) (hs : starEach (e :: es) X.env = (false, eval e X.env) :: starEach es X.env := by rfl) : WA X P (e :: es) δ M Q :=
  wa_of (pa_cons pe_sem pa_sem hs) fun σ H F G => h.go G fun v H1 F1 M1 d s1 G1 r1 q1 => q1.go G1 fun vs H2 F2 M2 ds s2 G2 r2 q2 => ⟨F2, M2, d :: ds, s1.trans s2, G2.st, .cons (r1.up s2) r2, q2⟩
theorem we_tup {x1} {Q : D → Cells → Prop} (h : WA X P es δ M fun ds M1 => ds.length ≤ sizeLine ∧ Q (.tup ds) M1) : WE X P (.Tuple es x1 pos) δ M Q :=
  we_of (pe_tup pa_sem) fun σ H F G => h.go G fun vs H1 F1 M1 ds s1 G1 r1 q1 => ⟨by rw [r1.length]; exact q1.1, fun p hp => by
    obtain ⟨S, s⟩ := G1.st.froz (o := .tup vs) hp
    exact ret S (s1.trans s) (.tup (.of upd_same) (r1.up s)) q1.2⟩
/-- [..], frozen -/
theorem we_lst {Q : D → Cells → Prop} (h : WA X P es δ M fun ds M1 => ds.length ≤ sizeLine ∧ Q (.lst ds) M1) : WE X P (.List es pos) δ M Q :=
  we_of (pe_lst pa_sem) fun σ H F G => h.go G fun vs H1 F1 M1 ds s1 G1 r1 q1 => ⟨by rw [r1.length]; exact q1.1, fun p hp => by
    obtain ⟨S, s⟩ := G1.st.froz (o := .lst vs) hp
    exact ret S (s1.trans s) (.lst (.of upd_same) (r1.up s)) q1.2⟩
theorem Stt.newL {K : PySem.W.Frag} {F : Hp} {M : Cells} {δ : Slots} {σ : L2.St} {H : Hp} (S : Stt K F M δ σ H) {p : Addr} {vs : List V} {ds : List D} (hp : H p = none) (r : Reps K F vs ds) : Stt K F ((p, .lst ds) :: M) δ σ (upd H p (.lst vs)) :=
  S.newCell hp ⟨vs, upd_same, r⟩
/-- [..], a cell -/
theorem we_lstC {Q : D → Cells → Prop} (h : WA X P es δ M fun ds M1 => ds.length ≤ sizeLine ∧ ∀ p, Q (.cel p) ((p, .lst ds) :: M1)) : WE X P (.List es pos) δ M Q :=
  we_of (pe_lst pa_sem) fun σ H F G => h.go G fun vs H1 F1 M1 ds s1 G1 r1 q1 => ⟨by rw [r1.length]; exact q1.1, fun p hp => ret (G1.st.newL hp r1) s1 (.cel p) (q1.2 p)⟩
/-- a cell is frozen -/
theorem we_froz (k : Nat) {Q : D → Cells → Prop} (h : WE X P e δ M fun d M1 => ∃ (p : Addr) (ds : List D), d = .cel p ∧ M1[k]? = some (p, .lst ds) ∧ Q (.lst ds) (M1.eraseIdx k)) : WE X P e δ M Q := fun σ H F G =>
  h.go G fun v H1 F1 M1 d s1 G1 r1 q1 => by
    obtain ⟨p, ds, rfl, hk, q⟩ := q1
    cases r1
    obtain ⟨F2, s2, S2, r2⟩ := G1.st.freeze hk
    exact ret S2 (s1.trans s2) r2 q
end
end PW
/-! PW3 -/
namespace PW
open PySem L2 PyProof.Rows

section
variable {X : Cx} {P : XP} {F : Hp} {M : Cells} {δ : Slots} {σ : L2.St} {H : Hp} {e a b c o : Expr} {es : List Expr} {pos apos p p2 : Pos}

theorem lift_I {C : Int → Int → Prop} {g : Int → Int → Int} : Lift2 X (rI C fun i j => .int (g i j)) (fun d e M Q => ∃ i j, d = .int i ∧ e = .int j ∧ C i j ∧ Q (.int (g i j)) M) := fun k s S r1 r2 h => by
  obtain ⟨i, j, rfl, rfl, hc, q⟩ := h
  cases r1; cases r2
  exact ⟨i, j, rfl, rfl, hc, k _ _ (ret S s (.int _) q)⟩
theorem lift_I0 {g : Int → Int → Int} : Lift2 X (rI0 fun i j => .int (g i j)) (fun d e M Q => ∃ i j, d = .int i ∧ e = .int j ∧ Q (.int (g i j)) M) := fun k s S r1 r2 h => by
  obtain ⟨i, j, rfl, rfl, q⟩ := h
  cases r1; cases r2
  exact ⟨i, j, rfl, rfl, k _ _ (ret S s (.int _) q)⟩
theorem lift_B0 {g : Int → Int → Bool} : Lift2 X (rI0 fun i j => .bl (g i j)) (fun d e M Q => ∃ i j, d = .int i ∧ e = .int j ∧ Q (.bl (g i j)) M) := fun k s S r1 r2 h => by
  obtain ⟨i, j, rfl, rfl, q⟩ := h
  cases r1; cases r2
  exact ⟨i, j, rfl, rfl, k _ _ (ret S s (.bl _) q)⟩
theorem Lift2.or {r r' : R2} {R R' : RD2} (h : Lift2 X r R) (h' : Lift2 X r' R') : Lift2 X (fun x y H Q => r x y H Q ∨ r' x y H Q) (fun d e M Q => R d e M Q ∨ R' d e M Q) := fun k s S r1 r2 q => q.elim (fun q => .inl (h k s S r1 r2 q)) fun q => .inr (h' k s S r1 r2 q)
theorem LiftA.or {r r' : List V → Hp → VK → Prop} {R R' : RDA} (h : LiftA X r R) (h' : LiftA X r' R') : LiftA X (fun x H Q => r x H Q ∨ r' x H Q) (fun d M Q => R d M Q ∨ R' d M Q) := fun k s S r1 q => q.elim (fun q => .inl (h k s S r1 q)) fun q => .inr (h' k s S r1 q)

def rCatQ (K : PySem.W.Frag) : R2 := fun x y H Q => ∃ l b xs zs, x = .ref l ∧ y = .ref b ∧ SqL K H l xs ∧ SqL K H b zs ∧ xs.length + zs.length ≤ sizeLine ∧ ∀ p, H p = none → Q (.ref p) (upd H p (.lst (xs ++ zs)))
theorem op_catQ : OpR X (binaryOp .Add) (rCatQ X.K) := by
  intro pins s σ H x y v u Q I rx ry h
  obtain ⟨l, b, xs, zs, rfl, rfl, hH, hB, hz, q⟩ := h
  cases rx
  cases ry
  obtain ⟨its, r, ⟨o, n, e, c, d0, d⟩, z⟩ := I.list hH
  obtain ⟨its2, r2, ⟨o2, n2, e2, c2, d02, d2⟩, z2⟩ := I.list hB
  have l1 := r.length
  have l2 := r2.length
  obtain ⟨oc, od, dt, sl⟩ := o
  obtain ⟨oc2, od2, dt2, sl2⟩ := o2
  simp only at c d0 d c2 d02 d2
  subst c d0 d c2 d02 d2
  have ea : its.toArray ++ its2.toArray = (its ++ its2).toArray := by simp
  refine concat_meets ⟨_, e, rfl⟩ ⟨_, e2, rfl⟩ noFill_list_add seq_list_add PySem.F.slot_list_add PySem.F.entry_list_add (PySem.F.args_list_add_2 _ _) (list_addW l b its.toArray its2.toArray n n2 none none sl sl2 (by rw [List.size_toArray, List.size_toArray, ← l1, ← l2]; exact hz)) ⟨e, e2, ?_⟩
  rw [ea]
  exact ⟨.ref _, _, I.lnew (t' := s.toks) (r.append r2) (by rw [List.length_append]; omega), rfl, q _ I.fresh⟩
theorem lift_cat : Lift2 X (rCatQ X.K) (fun d e M Q => ∃ ds es, LV M d ds ∧ LV M e es ∧ ds.length + es.length ≤ sizeLine ∧ Q (.lst (ds ++ es)) M) := fun k s S r1 r2 h => by
  obtain ⟨ds, es, h1, h2, hl, q⟩ := h
  obtain ⟨l, xs, rfl, q1, z1⟩ := S.readL r1 h1
  obtain ⟨l2, ys, rfl, q2, z2⟩ := S.readL r2 h2
  refine ⟨l, l2, xs, ys, rfl, rfl, q1, q2, by rw [z1.length, z2.length]; exact hl, fun p hp => k _ _ ?_⟩
  obtain ⟨S', s'⟩ := S.froz (o := .lst (xs ++ ys)) hp
  exact ret S' (s.trans s') (.lst (.of upd_same) ((z1.append z2).up s')) q
theorem lift_addS : Lift2 X (fun x y H Q => ∃ i j, x = .str i ∧ y = .str j ∧ i.length + j.length ≤ sizeLine ∧ Q (.str (i ++ j)) H) (fun d e M Q => ∃ i j, d = .str i ∧ e = .str j ∧ i.length + j.length ≤ sizeLine ∧ Q (.str (i ++ j)) M) := fun k s S r1 r2 h => by
  obtain ⟨i, j, rfl, rfl, hl, q⟩ := h
  cases r1; cases r2
  exact ⟨i, j, rfl, rfl, hl, k _ _ (ret S s (.str _) q)⟩
def RAdd : RD2 := fun d e M Q => (∃ i j, d = .int i ∧ e = .int j ∧ Q (.int (i + j)) M) ∨ (∃ i j, d = .str i ∧ e = .str j ∧ i.length + j.length ≤ sizeLine ∧ Q (.str (i ++ j)) M) ∨ (∃ ds es, LV M d ds ∧ LV M e es ∧ ds.length + es.length ≤ sizeLine ∧ Q (.lst (ds ++ es)) M)
theorem we_add {Q : D → Cells → Prop} (h : WE X P a δ M fun d M1 => WE X P b δ M1 fun e M2 => RAdd d e M2 Q) : WE X P (.BinOp a .Add b pos) δ M Q := we_op (op_add.or (op_add_str.or op_catQ)) (lift_I0.or (lift_addS.or lift_cat)) h
theorem we_sub {Q : D → Cells → Prop} (h : WE X P a δ M fun d M1 => WE X P b δ M1 fun e M2 => ∃ i j, d = .int i ∧ e = .int j ∧ Q (.int (i - j)) M2) : WE X P (.BinOp a .Sub b pos) δ M Q := we_op op_sub lift_I0 h
theorem op_mulQ : OpR X (binaryOp .Mult) (rI IntMulOk fun i j => .int (i * j)) := opI fun _ _ _ _ _ _ _ hc q => mul_int q hc
theorem we_mul {Q : D → Cells → Prop} (h : WE X P a δ M fun d M1 => WE X P b δ M1 fun e M2 => ∃ i j, d = .int i ∧ e = .int j ∧ IntMulOk i j ∧ Q (.int (i * j)) M2) : WE X P (.BinOp a .Mult b pos) δ M Q := we_op op_mulQ lift_I h
theorem we_fdiv {Q : D → Cells → Prop} (h : WE X P a δ M fun d M1 => WE X P b δ M1 fun e M2 => ∃ i j, d = .int i ∧ e = .int j ∧ CDivW i j ∧ Q (.int (i / j)) M2) : WE X P (.BinOp a .FloorDiv b pos) δ M Q := we_op op_fdivW lift_I h
theorem we_mod {Q : D → Cells → Prop} (h : WE X P a δ M fun d M1 => WE X P b δ M1 fun e M2 => ∃ i j, d = .int i ∧ e = .int j ∧ 0 < j ∧ Q (.int (i % j)) M2) : WE X P (.BinOp a .Mod b pos) δ M Q := we_op op_mod lift_I h
theorem we_modN {Q : D → Cells → Prop} (h : WE X P a δ M fun d M1 => WE X P b δ M1 fun e M2 => ∃ i j, d = .int i ∧ e = .int j ∧ j ≠ 0 ∧ Q (.int (i.fmod j)) M2) : WE X P (.BinOp a .Mod b pos) δ M Q := we_op op_modN lift_I h
def CPw (i j : Int) : Prop := 0 ≤ j ∧ (Builtin.Int.intBits i : Int) * j ≤ 2 ^ 27
theorem op_powQ : OpR X (binaryOp .Pow) (rI CPw fun i j => .int (i ^ j.toNat)) := opI fun _ _ _ _ _ _ _ hc q => pow_int hc.1 hc.2 q
theorem we_pow {Q : D → Cells → Prop} (h : WE X P a δ M fun d M1 => WE X P b δ M1 fun e M2 => ∃ i j, d = .int i ∧ e = .int j ∧ CPw i j ∧ Q (.int (i ^ j.toNat)) M2) : WE X P (.BinOp a .Pow b pos) δ M Q := we_op op_powQ lift_I h
theorem we_neg {Q : D → Cells → Prop} (h : WE X P a δ M fun d M1 => ∃ i, d = .int i ∧ Q (.int (-i)) M1) : WE X P (.UnaryOp .USub a pos) δ M Q := we_un (R := fun d M1 Q => ∃ i, d = .int i ∧ Q (.int (-i)) M1) un_neg (fun k s S r1 h => by
  obtain ⟨i, rfl, q⟩ := h
  cases r1
  exact ⟨i, rfl, k _ _ (ret S s (.int _) q)⟩) h

theorem we_lt {Q : D → Cells → Prop} (h : WE X P a δ M fun d M1 => WE X P b δ M1 fun e M2 => ∃ i j, d = .int i ∧ e = .int j ∧ Q (.bl (decide (i < j))) M2) : WE X P (.Compare a [.Lt] [b] pos) δ M Q := we_cmp op_lt lift_B0 (nomark _) h
theorem wt_lt {Q : Bool → Cells → Prop} (h : WE X P a δ M fun d M1 => WE X P b δ M1 fun e M2 => ∃ i j, d = .int i ∧ e = .int j ∧ Q (decide (i < j)) M2) : WT X P (.Compare a [.Lt] [b] pos) δ M Q := wt_cmp op_lt lift_B0 (nomark _) (h.imp fun d M1 q => q.imp fun e M2 ⟨i, j, h1, h2, q⟩ => ⟨i, j, h1, h2, _, rfl, q⟩)
theorem wt_le {Q : Bool → Cells → Prop} (h : WE X P a δ M fun d M1 => WE X P b δ M1 fun e M2 => ∃ i j, d = .int i ∧ e = .int j ∧ Q (decide (i ≤ j)) M2) : WT X P (.Compare a [.LtE] [b] pos) δ M Q := wt_cmp op_le lift_B0 (nomark _) (h.imp fun d M1 q => q.imp fun e M2 ⟨i, j, h1, h2, q⟩ => ⟨i, j, h1, h2, _, rfl, q⟩)
theorem wt_gt {Q : Bool → Cells → Prop} (h : WE X P a δ M fun d M1 => WE X P b δ M1 fun e M2 => ∃ i j, d = .int i ∧ e = .int j ∧ Q (decide (j < i)) M2) : WT X P (.Compare a [.Gt] [b] pos) δ M Q := wt_cmp op_gt lift_B0 (nomark _) (h.imp fun d M1 q => q.imp fun e M2 ⟨i, j, h1, h2, q⟩ => ⟨i, j, h1, h2, _, rfl, q⟩)
mutual
def py : D → PyData
  | .non => .none | .bl b => .bool b | .int i => .int i | .str x => .str x | .tup ds => .tuple (pys ds) | .lst ds => .list (pys ds) | .cel _ => .none | .raw _ => .none | .exc _ _ _ => .none
def pys : List D → List PyData
  | [] => []
  | d :: ds => py d :: pys ds
end
mutual
/-- no cell, nothing raw within -/
def okD : D → Bool
  | .tup ds => okDs ds | .lst ds => okDs ds | .cel _ => false | .raw _ => false | .exc _ _ _ => false | _ => true
def okDs : List D → Bool
  | [] => true
  | d :: ds => okD d && okDs ds
end
mutual
theorem Rep.dp {K : PySem.W.Frag} {F H : Hp} (s : Same F H) : ∀ (d : D) (v : V), Rep K F v d → okD d = true → Dp K H v (py d)
  | .non, _, h, _ => by cases h; exact .non
  | .bl _, _, h, _ => by cases h; exact .bl _
  | .int _, _, h, _ => by cases h; exact .int _
  | .str _, _, h, _ => by cases h; exact .str _
  | .tup ds, _, h, k => by cases h with | tup a b => exact .tup (Same.tup s a) (Reps.dp s ds _ b k)
  | .lst ds, _, h, k => by cases h with | lst a b => exact .lst (s.seq a) (Reps.dp s ds _ b k)
  | .cel _, _, _, k => by cases k
  | .raw _, _, _, k => by cases k
  | .exc _ _ _, _, _, k => by cases k
theorem Reps.dp {K : PySem.W.Frag} {F H : Hp} (s : Same F H) : ∀ (ds : List D) (vs : List V), Reps K F vs ds → okDs ds = true → DpAll K H vs (pys ds)
  | [], _, h, _ => by cases h; exact .nil
  | d :: ds, _, h, k => by
    cases h with
    | cons a b =>
      have k' : (okD d && okDs ds) = true := k
      rw [Bool.and_eq_true] at k'
      exact .cons (Rep.dp s d _ a k'.1) (Reps.dp s ds _ b k'.2)
end
/-- d is data, frozen or a cell of such -/
def PV (M : Cells) (d : D) (q : PyData) : Prop := (okD d = true ∧ q = py d) ∨ ∃ (k : Nat) (a : Addr) (ds : List D), d = .cel a ∧ M[k]? = some (a, .lst ds) ∧ okDs ds = true ∧ q = .list (pys ds)
theorem PV.fz {M : Cells} {d : D} (h : okD d = true) : PV M d (py d) := .inl ⟨h, rfl⟩
theorem PV.cl {M : Cells} {a : Addr} {ds : List D} (k : Nat) (h : M[k]? = some (a, .lst ds)) (g : okDs ds = true) : PV M (.cel a) (.list (pys ds)) := .inr ⟨k, a, ds, rfl, h, g, rfl⟩
theorem Stt.readP {K : PySem.W.Frag} (S : Stt K F M δ σ H) {v : V} {d : D} {q : PyData} (r : Rep K F v d) (h : PV M d q) : Dp K H v q := by
  rcases h with ⟨h, rfl⟩ | ⟨k, a, ds, rfl, h1, h2, rfl⟩
  · exact Rep.dp S.le d v r h
  · cases r
    obtain ⟨vs, e1, e2, e3⟩ := S.cellAt (List.mem_of_getElem? h1)
    exact .lst (.of e1) (Reps.dp S.le ds vs e3 h2)
theorem lift_eqD : Lift2 X (rEqD X.K) (fun d e M Q => ∃ p q, PV M d p ∧ PV M e q ∧ SeqAt.shaped p = true ∧ SeqAt.shaped q = true ∧ Q (.bl (PyData.eqv p q)) M) := fun k s S r1 r2 h => by
  obtain ⟨p, q, h1, h2, s1, s2, z⟩ := h
  exact ⟨p, q, S.readP r1 h1, S.readP r2 h2, s1, s2, k _ _ (ret S s (.bl _) z)⟩
theorem lift_neD : Lift2 X (rNeD X.K) (fun d e M Q => ∃ p q, PV M d p ∧ PV M e q ∧ SeqAt.shaped p = true ∧ SeqAt.shaped q = true ∧ Q (.bl (!PyData.eqv p q)) M) := fun k s S r1 r2 h => by
  obtain ⟨p, q, h1, h2, s1, s2, z⟩ := h
  exact ⟨p, q, S.readP r1 h1, S.readP r2 h2, s1, s2, k _ _ (ret S s (.bl _) z)⟩
def dOf : V → D
  | .non => .non | .bl b => .bl b | .int i => .int i | .str x => .str x | v => .raw v
theorem scal_rep {K : PySem.W.Frag} {v : V} {d : D} (x : V) (r : Rep K F v d) (h : d = dOf x) : v = x := by
  subst h
  cases x <;> (cases r; rfl)
/-- == of scalars: both ints, both texts, both bools, one of them None -/
def RScal (neg : Bool) : RD2 := fun d e M Q => ∃ x y : V, d = dOf x ∧ e = dOf y ∧ scal x y = true ∧ Q (.bl (if neg then !decide (x = y) else decide (x = y))) M
theorem lift_eqS : Lift2 X rEq (RScal false) := fun k s S r1 r2 h => by
  obtain ⟨x, y, h1, h2, h3, q⟩ := h
  rw [scal_rep x r1 h1, scal_rep y r2 h2]
  exact ⟨h3, k _ _ (ret S s (.bl _) q)⟩
theorem lift_neS : Lift2 X rNe (RScal true) := fun k s S r1 r2 h => by
  obtain ⟨x, y, h1, h2, h3, q⟩ := h
  rw [scal_rep x r1 h1, scal_rep y r2 h2]
  exact ⟨h3, k _ _ (ret S s (.bl _) q)⟩
/-- is None, is not None -/
def isNonD : D → Bool | .non => true | _ => false
theorem lift_isN : Lift2 X (fun x y H Q => y = .non ∧ Q (.bl (decide (x = .non))) H) (fun d e M Q => e = .non ∧ (∀ v, d ≠ .raw v) ∧ Q (.bl (isNonD d)) M) := fun k s S r1 r2 h => by
  obtain ⟨rfl, hr, q⟩ := h
  cases r2
  refine ⟨rfl, k _ _ ?_⟩
  cases r1 <;> first
    | exact ret S s (.bl _) q
    | exact absurd rfl (hr _)
theorem lift_notN : Lift2 X (fun x y H Q => y = .non ∧ Q (.bl (!decide (x = .non))) H) (fun d e M Q => e = .non ∧ (∀ v, d ≠ .raw v) ∧ Q (.bl (!isNonD d)) M) := fun k s S r1 r2 h => by
  obtain ⟨rfl, hr, q⟩ := h
  cases r2
  refine ⟨rfl, k _ _ ?_⟩
  cases r1 <;> first
    | exact ret S s (.bl _) q
    | exact absurd rfl (hr _)
theorem wt_isN {j pos'} {Q : Bool → Cells → Prop} (h : WE X P a δ M fun d M1 => (∀ v, d ≠ .raw v) ∧ Q (isNonD d) M1) : WT X P (.Compare a [.Is] [.Constant .none j pos'] pos) δ M Q := wt_cmp op_isN lift_isN (nomark _) (h.imp fun d M1 q => we_non ⟨rfl, q.1, _, rfl, q.2⟩)
theorem wt_notN {j pos'} {Q : Bool → Cells → Prop} (h : WE X P a δ M fun d M1 => (∀ v, d ≠ .raw v) ∧ Q (!isNonD d) M1) : WT X P (.Compare a [.IsNot] [.Constant .none j pos'] pos) δ M Q := wt_cmp op_notN lift_notN (nomark _) (h.imp fun d M1 q => we_non ⟨rfl, q.1, _, rfl, q.2⟩)

theorem reps_at {K : PySem.W.Frag} {vs : List V} {ds : List D} {i : Int} {d : D} (r : Reps K F vs ds) (h : atI ds i = some d) : ∃ v, atI vs i = some v ∧ Rep K F v d := by
  unfold atI at h ⊢
  rw [r.length]
  cases e : ixN ds.length i with
  | none => rw [e] at h; cases h
  | some j =>
    rw [e] at h
    exact r.get h
theorem lift_ixL : Lift2 X (rIxL X.K) (fun d e M Q => ∃ ds i z, LV M d ds ∧ e = .int i ∧ atI ds i = some z ∧ Q z M) := fun k s S r1 r2 h => by
  obtain ⟨ds, i, z, h1, rfl, h2, q⟩ := h
  cases r2
  obtain ⟨l, xs, rfl, q1, z1⟩ := S.readL r1 h1
  obtain ⟨v, e1, e2⟩ := reps_at z1 h2
  exact ⟨l, xs, i, v, rfl, rfl, q1, e1, k _ _ (ret S s e2 q)⟩
theorem lift_ixT : Lift2 X (rIxT X.K) (fun d e M Q => ∃ ds i z, d = .tup ds ∧ e = .int i ∧ atI ds i = some z ∧ Q z M) := fun k s S r1 r2 h => by
  obtain ⟨ds, i, z, rfl, rfl, h2, q⟩ := h
  cases r2
  obtain ⟨l, xs, rfl, q1, z1⟩ := S.readT r1
  obtain ⟨v, e1, e2⟩ := reps_at z1 h2
  exact ⟨l, xs, i, v, rfl, rfl, q1, e1, k _ _ (ret S s e2 q)⟩
theorem lift_ixS : Lift2 X rIxS (fun d e M Q => ∃ z i c, d = .str z ∧ e = .int i ∧ z.length ≤ sizeLine ∧ atI z.cps.toList i = some c ∧ Q (.str ⟨#[c]⟩) M) := fun k s S r1 r2 h => by
  obtain ⟨z, i, c, rfl, rfl, h1, h2, q⟩ := h
  cases r1; cases r2
  exact ⟨z, i, c, rfl, rfl, h1, h2, k _ _ (ret S s (.str _) q)⟩
def cutD (xs : List D) (lo hi : Option Int) : List D := (xs.drop (HT.sIx xs.length 0 lo)).take (HT.sIx xs.length xs.length hi - HT.sIx xs.length 0 lo)
theorem reps_cut {K : PySem.W.Frag} {vs : List V} {ds : List D} (r : Reps K F vs ds) (lo hi : Option Int) : Reps K F (cutV vs lo hi) (cutD ds lo hi) := by
  unfold cutV cutD
  rw [r.length]
  exact (r.drop _).take _
def tO (X : Cx) (e : Option Expr) : L2.TO := fun σ H Q => ∀ pins s, Inv X pins σ H s → wpAny (model X.prog X.w) X.A (evalPart e X.env) (fun u s' => ∃ o H', Inv X pins σ H' s' ∧ IsPart u o ∧ Q o H') X.xe s
theorem po_sem {X : Cx} {e : Option Expr} : PO X e (tO X e) := ⟨fun pins s _ _ _ I h => h pins s I⟩
def upO (K : PySem.W.Frag) (F : Hp) (δ : Slots) (σ : L2.St) (Q : Option Int → Cells → Prop) : Option Int → Hp → Prop := fun b H' => ∃ F' M', Same F F' ∧ Stt K F' M' δ σ H' ∧ Q b M'
def WO (X : Cx) (P : XP) (e : Option Expr) (δ : Slots) (M : Cells) (Q : Option Int → Cells → Prop) : Prop := ∀ σ H F, Go X P F M δ σ H → tO X e σ H (upO X.K F δ σ Q)
theorem wo_none {Q : Option Int → Cells → Prop} (h : Q none M) : WO X P none δ M Q := fun σ H F G pins s I => po_none.run pins s σ H _ I ⟨F, M, Same.refl _, G.st, h⟩
theorem wo_some {Q : Option Int → Cells → Prop} (h : WE X P e δ M fun d M1 => ∃ i, d = .int i ∧ Q (some i) M1) : WO X P (some e) δ M Q := fun σ H F G pins s I => (po_some pe_sem).run pins s σ H _ I (h.go G fun v H1 F1 M1 d s1 G1 r1 q1 => by
  obtain ⟨i, rfl, q⟩ := q1
  cases r1
  exact ⟨i, rfl, F1, M1, s1, G1.st, q⟩)
theorem tO.mono {e : Option Expr} {Q Q' : Option Int → Hp → Prop} (h : tO X e σ H Q) (k : ∀ v H', Q v H' → Q' v H') : tO X e σ H Q' := fun pins s I => thn (h pins s I) fun _ _ ⟨o, H', I', p, q⟩ => ⟨o, H', I', p, k _ _ q⟩
theorem we_callB {x : Str} {id : String} {r : List V → Hp → VK → Prop} {R : RDA} {Q : D → Cells → Prop} (hc : CallR X (.builtin id) r) (L : LiftA X r R) (hg : Gl X x) (hm : X.mg x = none) (hv : bootBuiltins x = some (.builtin id)) (h : WA X P (e :: es) δ M fun ds M1 => R ds M1 Q) (hn : x ≠ "__name__" := by decide) (hdb : (x == ("__debug__" : Str)) = false := by decide)
    (he : starEach (e :: es) X.env = (false, eval e X.env) :: starEach es X.env := by rfl) (hpl : (backTo pos (starEach es X.env)).any (·.1) = false := by rfl) : WE X P (.Call (.Name x p) (e :: es) [] pos) δ M Q :=
  we_of (pe_callB hc hg hm hv pa_sem hn hdb he hpl) fun σ H F G => h.go G fun vs H1 F1 M1 ds s1 G1 r1 q1 => L (fun _ _ z => z) s1 G1.st r1 q1
theorem we_callTy {x : Str} {T : String} {r : List V → Hp → VK → Prop} {R : RDA} {Q : D → Cells → Prop} (hc : CallR X (.type T) r) (L : LiftA X r R) (hg : Gl X x) (hm : X.mg x = none) (hv : bootBuiltins x = some (.type T)) (h : WA X P (e :: es) δ M fun ds M1 => R ds M1 Q) (hn : x ≠ "__name__" := by decide) (hdb : (x == ("__debug__" : Str)) = false := by decide)
    (he : starEach (e :: es) X.env = (false, eval e X.env) :: starEach es X.env := by rfl) (hpl : (backTo pos (starEach es X.env)).any (·.1) = false := by rfl) : WE X P (.Call (.Name x p) (e :: es) [] pos) δ M Q :=
  we_of (pe_callTy hc hg hm hv pa_sem hn hdb he hpl) fun σ H F G => h.go G fun vs H1 F1 M1 ds s1 G1 r1 q1 => L (fun _ _ z => z) s1 G1.st r1 q1
theorem Reps.one {K : PySem.W.Frag} {vs : List V} {d : D} (h : Reps K F vs [d]) : ∃ v, vs = [v] ∧ Rep K F v d := by
  cases h with | cons a b => cases b; exact ⟨_, rfl, a⟩
theorem Reps.two {K : PySem.W.Frag} {vs : List V} {d e : D} (h : Reps K F vs [d, e]) : ∃ v w, vs = [v, w] ∧ Rep K F v d ∧ Rep K F w e := by
  cases h with | cons a b => cases b with | cons b c => cases c; exact ⟨_, _, rfl, a, b⟩
def RLen : RDA := fun ds M Q => (∃ d xs, ds = [d] ∧ LV M d xs ∧ Q (.int xs.length) M) ∨ (∃ xs, ds = [.tup xs] ∧ Q (.int xs.length) M) ∨ (∃ z, ds = [.str z] ∧ z.length ≤ sizeLine ∧ Q (.int z.length) M)
theorem lift_len : LiftA X (fun xs H Q => ∃ x n, xs = [x] ∧ LenV X.K x H n ∧ Q (.int n) H) RLen := fun k s S r h => by
  rcases h with ⟨d, xs, rfl, hl, q⟩ | ⟨xs, rfl, q⟩ | ⟨z, rfl, hl, q⟩
  · obtain ⟨v, rfl, r1⟩ := r.one
    obtain ⟨a, vs, rfl, e1, e2⟩ := S.readL r1 hl
    exact ⟨_, vs.length, rfl, .inl ⟨vs, e1, rfl⟩, k _ _ (ret S s (by rw [e2.length]; exact .int _) q)⟩
  · obtain ⟨v, rfl, r1⟩ := r.one
    obtain ⟨a, vs, rfl, e1, e2⟩ := S.readT r1
    exact ⟨_, vs.length, rfl, .inr ⟨vs, e1, rfl⟩, k _ _ (ret S s (by rw [e2.length]; exact .int _) q)⟩
  · obtain ⟨v, rfl, r1⟩ := r.one
    cases r1
    exact ⟨_, z.length, rfl, ⟨hl, rfl⟩, k _ _ (ret S s (.int _) q)⟩
theorem we_len {Q : D → Cells → Prop} (hg : Gl X "len") (hm : X.mg "len" = none) (h : WA X P [e] δ M fun ds M1 => RLen ds M1 Q) (he : starEach [e] X.env = (false, eval e X.env) :: starEach [] X.env := by rfl) (hpl : (backTo pos (starEach [] X.env)).any (·.1) = false := by rfl) : WE X P (.Call (.Name "len" p) [e] [] pos) δ M Q :=
  we_callB call_len lift_len hg hm (by decide +kernel) h (by decide) (by decide) he hpl
theorem we_abs {Q : D → Cells → Prop} (hg : Gl X "abs") (hm : X.mg "abs" = none) (h : WA X P [e] δ M fun ds M1 => ∃ i, ds = [.int i] ∧ Q (.int (if i < 0 then -i else i)) M1) (he : starEach [e] X.env = (false, eval e X.env) :: starEach [] X.env := by rfl) (hpl : (backTo pos (starEach [] X.env)).any (·.1) = false := by rfl) : WE X P (.Call (.Name "abs" p) [e] [] pos) δ M Q :=
  we_callB (R := fun ds M1 Q => ∃ i, ds = [.int i] ∧ Q (.int (if i < 0 then -i else i)) M1) call_abs (fun k s S r h => by
    obtain ⟨i, rfl, q⟩ := h
    obtain ⟨v, rfl, r1⟩ := r.one
    cases r1
    exact ⟨i, rfl, k _ _ (ret S s (.int _) q)⟩) hg hm (by decide +kernel) h (by decide) (by decide) he hpl
theorem we_all {Q : D → Cells → Prop} (hc : X.calm = true) (hg : Gl X "all") (hm : X.mg "all" = none) (h : WA X P [a] δ M fun ds M1 => ∃ (d : D) (bs : List Bool), ds = [d] ∧ LV M1 d (bs.map D.bl) ∧ Q (.bl (bs.all id)) M1) (he : starEach [a] X.env = (false, eval a X.env) :: starEach [] X.env := by rfl) (hpl : (backTo pos (starEach [] X.env)).any (·.1) = false := by rfl) : WE X P (.Call (.Name "all" p) [a] [] pos) δ M Q :=
  we_callB (R := fun ds M1 Q => ∃ (d : D) (bs : List Bool), ds = [d] ∧ LV M1 d (bs.map D.bl) ∧ Q (.bl (bs.all id)) M1) (cr_all hc) (fun k s S r h => by
    obtain ⟨d, bs, rfl, hl, q⟩ := h
    obtain ⟨v, rfl, r1⟩ := r.one
    obtain ⟨a, vs, rfl, e1, e2⟩ := S.readL r1 hl
    rw [e2.bls_inv] at e1
    exact ⟨a, bs, rfl, e1, k _ _ (ret S s (.bl _) q)⟩) hg hm (by decide +kernel) h (by decide) (by decide) he hpl
def isT (t n : String) : Bool := t == n || (t == "bool" && n == "int")
def TyA (M : Cells) (d : D) (t : String) : Prop := match d with
  | .non => t = "NoneType" | .bl _ => t = "bool" | .int _ => t = "int" | .str _ => t = "str" | .tup _ => t = "tuple" | .lst _ => t = "list" | .cel a => t = "list" ∧ ∃ (k : Nat) (ds : List D), M[k]? = some (a, .lst ds) | .raw _ => False | .exc _ _ _ => False
theorem kitT {K : PySem.W.Frag} {t n : String} (ht : t ∈ ["NoneType", "bool", "int", "str", "tuple", "list"]) (hn : n ∈ ["bool", "int", "str", "tuple", "list", "dict"]) : PySem.W.kitOne K (.type t) (.type n) = some (isT t n) := by
  simp only [List.mem_cons, List.not_mem_nil, or_false] at ht hn
  rcases ht with rfl | rfl | rfl | rfl | rfl | rfl <;> rcases hn with rfl | rfl | rfl | rfl | rfl | rfl <;> exact kit_ty (by decide +kernel)
theorem Stt.ty {K : PySem.W.Frag} (S : Stt K F M δ σ H) {v : V} {d : D} {t : String} (r : Rep K F v d) (h : TyA M d t) : TyX K H v (.type t) ∧ t ∈ ["NoneType", "bool", "int", "str", "tuple", "list"] := by
  cases d with
  | non => cases r; cases (show t = _ from h); exact ⟨.base .non, by simp⟩
  | bl b => cases r; cases (show t = _ from h); exact ⟨.base (.bl b), by simp⟩
  | int i => cases r; cases (show t = _ from h); exact ⟨.base (.int i), by simp⟩
  | str x => cases r; cases (show t = _ from h); exact ⟨.base (.str x), by simp⟩
  | tup ds =>
    cases (show t = _ from h)
    obtain ⟨a, vs, rfl, e1, e2⟩ := S.readT r
    refine ⟨?_, by simp⟩
    rcases e1 with (e1 | ⟨o, e1⟩) | ⟨o, its, n, e1, e3, _⟩
    · exact .base (.tup e1)
    · exact .fTuple e1
    · exact .kTuple e1 e3
  | lst ds =>
    cases (show t = _ from h)
    obtain ⟨a, vs, rfl, e1, e2⟩ := S.readL r LV.l
    refine ⟨?_, by simp⟩
    rcases e1 with (e1 | ⟨o, e1⟩) | ⟨o, its, n, e1, e3, _⟩
    · exact .base (.lst e1)
    · exact .base (.frz e1)
    · exact .kList e1 e3
  | cel a =>
    obtain ⟨rfl, k, ds, hk⟩ := (show t = "list" ∧ ∃ (k : Nat) (ds : List D), M[k]? = some (a, .lst ds) from h)
    obtain ⟨a, vs, rfl, e1, e2⟩ := S.readL r (LV.c k hk)
    refine ⟨?_, by simp⟩
    rcases e1 with (e1 | ⟨o, e1⟩) | ⟨o, its, n, e1, e3, _⟩
    · exact .base (.lst e1)
    · exact .base (.frz e1)
    · exact .kList e1 e3
  | raw v => exact (show False from h).elim
  | exc _ _ _ => exact (show False from h).elim
def rIsiTQ (K : PySem.W.Frag) : List V → Hp → VK → Prop := fun xs H Q => ∃ (x : V) (tp : Addr) (cs : List V) (t : Value) (us : List Value) (b : Bool), xs = [x, .ref tp] ∧ SqT K H tp cs ∧ Paired ClsV cs us ∧ TyX K H x t ∧ PySem.W.kitAny K t us = some b ∧ Q (.bl b) H
theorem call_isiTQ : CallR X (.builtin "isinstance") (rIsiTQ X.K) := by
  intro pins s σ H xs us Q I r h
  obtain ⟨x, tp, cs, t, ws, b, rfl, hT, k, ty, e, q⟩ := h
  obtain ⟨u1, u2, rfl, r1, r2⟩ := vals2 r
  cases (show u2 = Value.ref tp from r2)
  obtain ⟨P, Z, p, hx⟩ := kit_of I r1 ty
  obtain ⟨its, rv, ⟨o, h1, h2, n, h3⟩, _⟩ := I.tuple hT
  have e3 := ClsV.all k rv
  subst e3
  obtain ⟨oc, od, dt, sl⟩ := o
  simp only at h2 h3
  subst h2 h3
  exact PySem.W.kia_tup Z I.kIn p h1 e hx fun tk => ⟨.bl b, H, I.tok tk, rfl, q⟩
def RIsi : RDA := fun ds M Q => ∃ d t n, ds = [d, .raw (.ty n)] ∧ TyA M d t ∧ n ∈ ["bool", "int", "str", "tuple", "list", "dict"] ∧ Q (.bl (isT t n)) M
theorem lift_isi : LiftA X (rIsi X.K) RIsi := fun k s S r h => by
  obtain ⟨d, t, n, rfl, ht, hn, q⟩ := h
  obtain ⟨v, w, rfl, r1, r2⟩ := r.two
  cases r2
  obtain ⟨ty, hm⟩ := S.ty r1 ht
  exact ⟨v, .ty n, .type t, .type n, isT t n, rfl, .ty n, ty, kitT hm hn, k _ _ (ret S s (.bl _) q)⟩
def RIsiT : RDA := fun ds M Q => ∃ d t n m, ds = [d, .tup [.raw (.ty n), .raw (.ty m)]] ∧ TyA M d t ∧ n ∈ ["bool", "int", "str", "tuple", "list", "dict"] ∧ m ∈ ["bool", "int", "str", "tuple", "list", "dict"] ∧ Q (.bl (isT t n || isT t m)) M
theorem lift_isiT : LiftA X (rIsiTQ X.K) RIsiT := fun k s S r h => by
  obtain ⟨d, t, n, m, rfl, ht, hn, hm, q⟩ := h
  obtain ⟨v, w, rfl, r1, r2⟩ := r.two
  obtain ⟨a, vs, rfl, e1, e2⟩ := S.readT r2
  obtain ⟨y, z, rfl, q1, q2⟩ := e2.two
  cases q1; cases q2
  obtain ⟨ty, hmm⟩ := S.ty r1 ht
  refine ⟨v, a, [.ty n, .ty m], .type t, [.type n, .type m], isT t n || isT t m, rfl, e1, .cons (.ty n) (.cons (.ty m) .nil), ty, ?_, k _ _ (ret S s (.bl _) q)⟩
  refine kitAny_cons (kitT hmm hn) (fun e => ?_) (fun e => by rw [e]; rfl)
  rw [e, Bool.false_or]
  exact kitAny_cons (kitT hmm hm) (fun e => by rw [e]; exact kitAny_nil) (fun e => e)
theorem we_isi {Q : D → Cells → Prop} (hg : Gl X "isinstance") (hm : X.mg "isinstance" = none) (h : WA X P [a, b] δ M fun ds M1 => RIsi ds M1 Q ∨ RIsiT ds M1 Q) (he : starEach [a, b] X.env = (false, eval a X.env) :: starEach [b] X.env := by rfl) (hpl : (backTo pos (starEach [b] X.env)).any (·.1) = false := by rfl) : WE X P (.Call (.Name "isinstance" p) [a, b] [] pos) δ M Q :=
  we_callB (call_isi.or call_isiTQ) (lift_isi.or lift_isiT) hg hm (by decide +kernel) h (by decide) (by decide) he hpl
end
end PW
/-! PW4 -/
namespace PW
open PySem L2 PyProof.Rows

structure Nice (X : Cx) : Prop where
  calm : X.calm = true
  nd : X.N.Nodup
  own : PassesOwn (model X.prog X.w) X.A X.env X.xe

structure En where
  nx : Slots → Cells → Prop
  rt : D → Cells → Prop
  bk : Slots → Cells → Prop := fun _ _ => False
  ct : Slots → Cells → Prop := fun _ _ => False
def upN (K : PySem.W.Frag) (F : Hp) (Q : Slots → Cells → Prop) : L2.St → Hp → Prop := fun σ' H' => ∃ F' M' δ', Same F F' ∧ Stt K F' M' δ' σ' H' ∧ Q δ' M'
def upR (K : PySem.W.Frag) (F : Hp) (Q : D → Cells → Prop) : VK := fun v H' => ∃ F' M' δ' σ' d, Same F F' ∧ Stt K F' M' δ' σ' H' ∧ Rep K F' v d ∧ Q d M'
def upEn (K : PySem.W.Frag) (F : Hp) (E : En) : L2.Ends := ⟨upN K F E.nx, upR K F E.rt, upN K F E.bk, upN K F E.ct⟩
theorem upN.base {K : PySem.W.Frag} {F F' : Hp} (s : Same F F') {Q : Slots → Cells → Prop} {σ : L2.St} {H : Hp} (h : upN K F' Q σ H) : upN K F Q σ H := let ⟨F2, M2, d2, s2, r⟩ := h; ⟨F2, M2, d2, s.trans s2, r⟩
theorem upR.base {K : PySem.W.Frag} {F F' : Hp} (s : Same F F') {Q : D → Cells → Prop} {v : V} {H : Hp} (h : upR K F' Q v H) : upR K F Q v H := let ⟨F2, M2, d2, σ2, e2, s2, r⟩ := h; ⟨F2, M2, d2, σ2, e2, s.trans s2, r⟩
def tS (X : Cx) (st : Stmt) : TS := fun D σ H => ∀ pins s, Inv X pins σ H s → wpAny (model X.prog X.w) X.A (exec st X.env) (SP X pins D) X.xe s
def tB (X : Cx) (b : List Stmt) : TS := fun D σ H => ∀ pins s, Inv X pins σ H s → wpAny (model X.prog X.w) X.A (execs b X.env) (SP X pins D) X.xe s
def tG (X : Cx) (tg : Expr) : TG := fun v σ H Q => ∀ pins s u, Inv X pins σ H s → RelV v u → wpAny (model X.prog X.w) X.A (assign tg X.env u) (fun _ s' => ∃ σ' H', Inv X pins σ' H' s' ∧ Q σ' H') X.xe s
theorem ps_sem {X : Cx} {st : Stmt} : PS X st (tS X st) := ⟨fun pins s _ _ _ I h => h pins s I⟩
theorem pss_sem {X : Cx} {st : List Stmt} : PSs X st (tB X st) := ⟨fun pins s _ _ _ I h => h pins s I⟩
theorem pg_sem {X : Cx} {tg : Expr} : PG X tg (tG X tg) := ⟨fun pins s _ _ _ u _ I r h => h pins s u I r⟩
def WS (X : Cx) (P : XP) (st : Stmt) (δ : Slots) (M : Cells) (E : En) : Prop := ∀ σ H F, Go X P F M δ σ H → tS X st (upEn X.K F E) σ H
def WB (X : Cx) (P : XP) (b : List Stmt) (δ : Slots) (M : Cells) (E : En) : Prop := ∀ σ H F, Go X P F M δ σ H → tB X b (upEn X.K F E) σ H
def WG (X : Cx) (P : XP) (tg : Expr) (d : D) (δ : Slots) (M : Cells) (Q : Slots → Cells → Prop) : Prop := ∀ σ H F v, Go X P F M δ σ H → Rep X.K F v d → tG X tg v σ H (upN X.K F Q)
structure EnLe (D D' : L2.Ends) : Prop where
  nx : ∀ σ H, D.nx σ H → D'.nx σ H
  rt : ∀ v H, D.rt v H → D'.rt v H
  bk : ∀ σ H, D.bk σ H → D'.bk σ H
  ct : ∀ σ H, D.ct σ H → D'.ct σ H
theorem SP.mono {X : Cx} {pins : List (Addr × Obj)} {D D' : L2.Ends} (l : EnLe D D') {f : Flow} {s : Shared} (h : SP X pins D f s) : SP X pins D' f s := by
  cases f with
  | next => obtain ⟨σ', H', I, q⟩ := h; exact ⟨σ', H', I, l.nx _ _ q⟩
  | brk => obtain ⟨σ', H', I, q⟩ := h; exact ⟨σ', H', I, l.bk _ _ q⟩
  | cont => obtain ⟨σ', H', I, q⟩ := h; exact ⟨σ', H', I, l.ct _ _ q⟩
  | ret u => obtain ⟨v, σ', H', I, r, q⟩ := h; exact ⟨v, σ', H', I, r, l.rt _ _ q⟩
section
variable {X : Cx} {P : XP} {F : Hp} {M : Cells} {δ : Slots} {σ : L2.St} {H : Hp} {e a b c o : Expr} {es : List Expr} {pos apos p p2 : Pos} {st : Stmt} {rest body orelse : List Stmt} {E : En}
theorem tS.mono {D D' : L2.Ends} (h : tS X st D σ H) (l : EnLe D D') : tS X st D' σ H := fun pins s I => thn (h pins s I) fun _ _ q => SP.mono l q
theorem tB.mono {D D' : L2.Ends} (h : tB X body D σ H) (l : EnLe D D') : tB X body D' σ H := fun pins s I => thn (h pins s I) fun _ _ q => SP.mono l q
theorem tG.mono {tg : Expr} {v : V} {Q Q' : L2.St → Hp → Prop} (h : tG X tg v σ H Q) (k : ∀ σ H, Q σ H → Q' σ H) : tG X tg v σ H Q' := fun pins s u I r => thn (h pins s u I r) fun _ _ ⟨σ', H', I', q⟩ => ⟨σ', H', I', k _ _ q⟩
theorem enle_base {K : PySem.W.Frag} {F F' : Hp} (s : Same F F') (E : En) : EnLe (upEn K F' E) (upEn K F E) := ⟨fun _ _ h => upN.base s h, fun _ _ h => upR.base s h, fun _ _ h => upN.base s h, fun _ _ h => upN.base s h⟩
/-- go on behind a change of the frozen base -/
theorem WB.go {F' : Hp} {M' : Cells} {δ' : Slots} {σ' : L2.St} {H' : Hp} (h : WB X P body δ' M' E) (G : Go X P F' M' δ' σ' H') (s : Same F F') : tB X body (upEn X.K F E) σ' H' := (h σ' H' F' G).mono (enle_base s E)
theorem ws_of {t : TS} (p : PS X st t) (h : ∀ σ H F, Go X P F M δ σ H → t (upEn X.K F E) σ H) : WS X P st δ M E := fun σ H F G pins s I => p.run pins s σ H _ I (h σ H F G)
theorem nx_ {Q : Slots → Cells → Prop} {F0 : Hp} {K : PySem.W.Frag} (S : Stt K F M δ σ H) (s : Same F0 F) (q : Q δ M) : upN K F0 Q σ H := ⟨F, M, δ, s, S, q⟩

theorem wb_nil (h : E.nx δ M) : WB X P [] δ M E := fun σ H F G pins s I => pss_nil.run pins s σ H (upEn X.K F E) I (nx_ G.st (Same.refl _) h)
theorem wb_cons (h : WS X P st δ M { E with nx := fun δ' M' => WB X P rest δ' M' E }) : WB X P (st :: rest) δ M E := fun σ H F G pins s I =>
  (pss_cons ps_sem pss_sem).run pins s σ H (upEn X.K F E) I ((h σ H F G).mono ⟨fun σ' H' ⟨F', M', δ', s', S', q⟩ => q.go ⟨S', G.tk.up s'⟩ s', fun _ _ h => h, fun _ _ h => h, fun _ _ h => h⟩)
theorem wb_one (h : WS X P st δ M E) : WB X P [st] δ M E := fun σ H F G pins s I => (pss_one ps_sem).run pins s σ H (upEn X.K F E) I (h σ H F G)
theorem ws_expr (h : WE X P e δ M fun _ M' => E.nx δ M') (hs : swapsWith e none pos.line X.env = pure false := by rfl) : WS X P (.Expr e pos) δ M E := ws_of (ps_expr pe_sem hs) fun σ H F G => h.go G fun v H' F' M' d s G' r q => nx_ G'.st s q
theorem ws_ret (h : WE X P e δ M E.rt) : WS X P (.Return (some e) pos) δ M E := ws_of (ps_ret pe_sem) fun σ H F G => h.go G fun v H' F' M' d s G' r q => ⟨F', M', δ, σ, d, s, G'.st, r, q⟩
theorem ws_if (h : WT X P c δ M fun k M' => if k = true then WB X P body δ M' E else WB X P orelse δ M' E) : WS X P (.If c body orelse pos) δ M E :=
  ws_of (ps_if pt_sem pss_sem pss_sem) fun σ H F G => h.go G fun k H' F' M' s G' q => by
    cases k with
    | true => rw [if_pos rfl] at q ⊢; exact q.go G' s
    | false => rw [if_neg (by decide)] at q ⊢; exact q.go G' s
theorem ws_set {i : Nat} {x : Str} {pos' : Pos} (N : Nice X) (hi : X.N[i]? = some x) (hx : Loc X.env.scope x) (h : WE X P e δ M fun d M' => E.nx (δ.set i (some d)) M') (hs : swapsWith e (some (.Name x pos')) pos.line X.env = pure false := by rfl) (hf : X.fn x = true ∨ X.env.scope.names.lookup x = some .local := by first | exact .inl rfl | exact .inr rfl | assumption) : WS X P (.Assign [.Name x pos'] e pos) δ M E :=
  ws_of (ps_set N.nd hi hx pe_sem hs hf) fun σ H F G => h.go G fun v H' F' M' d s G' r q => nx_ (G'.st.setSlot r) s q
theorem wg_of {tg : Expr} {t : TG} {d : D} {Q : Slots → Cells → Prop} (p : PG X tg t) (h : ∀ σ H F v, Go X P F M δ σ H → Rep X.K F v d → t v σ H (upN X.K F Q)) : WG X P tg d δ M Q := fun σ H F v G r pins s u I ru => p.run pins s σ H v u _ I ru (h σ H F v G r)
theorem wg_name {i : Nat} {x : Str} {d : D} {Q : Slots → Cells → Prop} (N : Nice X) (hi : X.N[i]? = some x) (hx : Loc X.env.scope x) (h : Q (δ.set i (some d)) M) (hf : X.fn x = true ∨ X.env.scope.names.lookup x = some .local := by first | exact .inl rfl | exact .inr rfl | assumption) : WG X P (.Name x pos) d δ M Q :=
  wg_of (pg_name N.nd hi hx hf) fun σ H F v G r => nx_ (G.st.setSlot r) (Same.refl _) h
/-- targets one after another -/
def tGs (X : Cx) (ts : List Expr) : TGs := fun vs σ H Q => ∀ pins s us, Inv X pins σ H s → Vals vs us → wpAny (model X.prog X.w) X.A (assignInOrder ((assignEach ts X.env).map (·.2)) us) (fun _ s' => ∃ σ' H', Inv X pins σ' H' s' ∧ Q σ' H') X.xe s
theorem pgs_sem {ts : List Expr} : PGs X ts (tGs X ts) := ⟨fun pins s _ _ _ us _ I r h => h pins s us I r⟩
def WGs (X : Cx) (P : XP) (ts : List Expr) (ds : List D) (δ : Slots) (M : Cells) (Q : Slots → Cells → Prop) : Prop := ∀ σ H F vs, Go X P F M δ σ H → Reps X.K F vs ds → tGs X ts vs σ H (upN X.K F Q)
theorem wgs_nil {Q : Slots → Cells → Prop} (h : Q δ M) : WGs X P [] [] δ M Q := fun σ H F vs G r pins s us I ru => pgs_nil.run pins s σ H vs us _ I ru ⟨by cases r; rfl, nx_ G.st (Same.refl _) h⟩
theorem wgs_cons {t : Expr} {ts : List Expr} {d : D} {ds : List D} {Q : Slots → Cells → Prop} (h : WG X P t d δ M fun δ' M' => WGs X P ts ds δ' M' Q) (hs : (assignEach (t :: ts) X.env).map (·.2) = assign t X.env :: (assignEach ts X.env).map (·.2) := by rfl) : WGs X P (t :: ts) (d :: ds) δ M Q := fun σ H F vs G r pins s us I ru => by
  cases r with
  | cons r1 r2 =>
    refine (pgs_cons pg_sem pgs_sem hs).run pins s σ H _ us _ I ru ⟨_, _, rfl, (h σ H F _ G r1).mono fun σ' H' ⟨F', M', δ', s', S', q⟩ => ?_⟩
    exact fun pins s us I ru => thn (q σ' H' F' _ ⟨S', G.tk.up s'⟩ (r2.up s') pins s us I ru) fun _ _ ⟨σ2, H2, I2, q2⟩ => ⟨σ2, H2, I2, upN.base s' q2⟩
theorem wg_tup {ts : List Expr} {k : Nat} {d : D} {ds : List D} {Q : Slots → Cells → Prop} (N : Nice X) (hd : d = .tup ds) (h : WGs X P ts ds δ M Q) (hl : ds.length = (assignEach ts X.env).length := by rfl) (hst : (assignEach ts X.env).findIdx? (·.1) = none := by rfl) : WG X P (.Tuple ts k pos) d δ M Q := by
  subst hd
  refine wg_of (pg_tup N.calm pgs_sem (n := ds.length) hl.symm hst) fun σ H F v G r => ?_
  obtain ⟨a, vs, rfl, e1, e2⟩ := G.st.readT r
  exact ⟨a, vs, rfl, e1, e2.length, h σ H F vs G e2⟩
theorem wg_sub {d : D} {Q : Slots → Cells → Prop} (h : WE X P o δ M fun x M1 => WE X P a δ M1 fun y M2 => ∃ k q ds z j, x = .cel q ∧ M2[k]? = some (q, .lst ds) ∧ y = .int z ∧ ixN ds.length z = some j ∧ Q δ (M2.set k (q, .lst (ds.set j d))))
    (ha : ∀ v, assign (.Subscript o a pos) X.env v = (do
      let ov ← holding [v] (eval o X.env)
      let iv ← holding [v, ov] (eval a X.env)
      standAt pos
      holding [v, ov, iv] (setItem ov iv v)
      release [v, ov, iv] []) := by intro _; rfl) : WG X P (.Subscript o a pos) d δ M Q :=
  wg_of (pg_sub pe_sem pe_sem set_list ha) fun σ H F v G r => h.go G fun ov H1 F1 M1 x s1 G1 r1 q1 => q1.go G1 fun iv H2 F2 M2 y s2 G2 r2 q2 => by
    obtain ⟨k, q, ds, z, j, rfl, hk, rfl, hj, hq⟩ := q2
    cases r1; cases r2
    obtain ⟨vs, e1, e2, e3⟩ := G2.st.cellAt (List.mem_of_getElem? hk)
    refine ⟨q, vs, z, j, rfl, rfl, e1, by rw [e3.length]; exact hj, ?_⟩
    exact nx_ (G2.st.setCell (c' := .lst (ds.set j d)) hk ⟨vs.set j v, upd_same, e3.set j (r.up (s1.trans s2))⟩) (s1.trans s2) hq
theorem ws_asg {tg : Expr} (h : WE X P e δ M fun d M' => WG X P tg d δ M' E.nx) (hs : swapsWithSole [tg] e pos.line X.env = pure false := by rfl) (hw : swappedStores [tg] e X.env = pure none := by rfl)
    (h1 : (assignEach [tg] X.env).map (·.2) = [assign tg X.env] := by rfl) : WS X P (.Assign [tg] e pos) δ M E :=
  ws_of (ps_asg pe_sem pg_sem hs hw h1) fun σ H F G => h.go G fun v H' F' M' d s G' r q => (q σ H' F' v G' r).mono fun _ _ z => upN.base s z
/-- a, b = x, y of plain local names -/
theorem ws_par {i j : Nat} {x y : Str} {px py pt : Pos} {kt k2 pt2} (N : Nice X) (hi : X.N[i]? = some x) (hj : X.N[j]? = some y) (hij : i ≠ j) (hx : X.env.scope.names.lookup x = some .local) (hy : X.env.scope.names.lookup y = some .local)
    (hw : swappedStores [.Tuple [.Name x px, .Name y py] kt pt] (.Tuple [a, b] k2 pt2) X.env = pure (some [x, y])) (h : WA X P [a, b] δ M fun ds M' => ∃ d1 d2, ds = [d1, d2] ∧ E.nx ((δ.set i (some d1)).set j (some d2)) M')
    (hs : swapsWithSole [.Tuple [.Name x px, .Name y py] kt pt] (.Tuple [a, b] k2 pt2) pos.line X.env = pure false := by rfl) : WS X P (.Assign [.Tuple [.Name x px, .Name y py] kt pt] (.Tuple [a, b] k2 pt2) pos) δ M E :=
  ws_of (ps_par N.calm N.nd hi hj hij hx hy pa_sem hw hs) fun σ H F G => h.go G fun vs H' F' M' ds s G' r q => by
    obtain ⟨d1, d2, rfl, q⟩ := q
    obtain ⟨v, w, rfl, r1, r2⟩ := r.two
    exact ⟨v, w, rfl, nx_ ((G'.st.setSlot r1).setSlot r2) s q⟩
theorem ws_aug {i : Nat} {x : Str} {op : Operator} {ti : TIp} {R : RD2} {pos' : Pos} {d : D} (N : Nice X) (hi : X.N[i]? = some x) (hx : Loc X.env.scope x) (ho : PIp X op ti) (L : Lift2 X ti R) (hd : δ[i]? = some (some d)) (h : WE X P e δ M fun y M1 => R d y M1 fun z M2 => E.nx (δ.set i (some z)) M2)
    (hf : X.fn x = true ∨ X.env.scope.names.lookup x = some .local := by first | exact .inl rfl | exact .inr rfl | assumption) : WS X P (.AugAssign (.Name x pos') op e pos) δ M E :=
  ws_of (ps_aug N.nd hi hx pe_sem ho hf) fun σ H F G => by
    obtain ⟨v, e1, r⟩ := G.st.slot i d hd
    refine ⟨v, e1, h.go G fun u H1 F1 M1 y s1 G1 r1 q1 => L (Q := fun z M2 => E.nx (δ.set i (some z)) M2) (fun z H2 hz => ?_) s1 G1.st (r.up s1) r1 q1⟩
    obtain ⟨F2, M2, z', s2, S2, r2, q2⟩ := hz
    exact nx_ (S2.setSlot r2) s2 q2
theorem ws_augI {i : Nat} {x : Str} {op : Operator} {C : Int → Int → Prop} {g : Int → Int → Int} {pos' : Pos} {n : Int} (N : Nice X) (hi : X.N[i]? = some x) (hx : Loc X.env.scope x) (ho : OpR X (inplaceOp op) (rI C fun i j => .int (g i j))) (hd : δ[i]? = some (some (.int n))) (h : WE X P e δ M fun y M1 => ∃ j, y = .int j ∧ C n j ∧ E.nx (δ.set i (some (.int (g n j)))) M1)
    (hf : X.fn x = true ∨ X.env.scope.names.lookup x = some .local := by first | exact .inl rfl | exact .inr rfl | assumption) : WS X P (.AugAssign (.Name x pos') op e pos) δ M E :=
  ws_aug N hi hx ho lift_I hd (h.imp fun y M1 ⟨j, e, hc, q⟩ => ⟨n, j, rfl, e, hc, q⟩) hf
theorem iop_addQ : OpR X (inplaceOp .Add) (rI (fun _ _ => True) fun i j => .int (i + j)) := opI fun _ _ _ _ _ _ _ _ q => iadd_int q
theorem ws_while (N : Nice X) (I : Nat → Slots → Cells → Prop) (h0 : ∃ n, I n δ M)
    (hs : ∀ n δ' M', I n δ' M' → WT X P c δ' M' fun k M1 => if k = true then WB X P body δ' M1 { E with nx := fun δ2 M2 => ∃ m, m < n ∧ I m δ2 M2, ct := fun δ2 M2 => ∃ m, m < n ∧ I m δ2 M2, bk := E.nx } else E.nx δ' M1) : WS X P (.While c body [] pos) δ M E :=
  ws_of (ps_while N.own pt_sem pss_sem) fun σ H F G => by
    obtain ⟨n0, i0⟩ := h0
    refine ⟨fun n σ' H' => ∃ F' M' δ', Same F F' ∧ Go X P F' M' δ' σ' H' ∧ I n δ' M', ⟨n0, F, M, δ, Same.refl _, G, i0⟩, ?_⟩
    rintro n σ1 H1 ⟨F1, M1, δ1, s1, G1, i1⟩
    refine (hs n δ1 M1 i1).go G1 fun k H2 F2 M2 s2 G2 q2 => ?_
    cases k with
    | false => rw [if_neg (by decide)] at q2 ⊢; exact nx_ G2.st (s1.trans s2) q2
    | true =>
      rw [if_pos rfl] at q2 ⊢
      refine ⟨upN X.K F (fun δ2 M2 => ∃ m, m < n ∧ I m δ2 M2), fun σ3 H3 ⟨F3, M3, δ3, s3, S3, m, hm, i3⟩ => ⟨m, hm, F3, M3, δ3, s3, ⟨S3, G.tk.up s3⟩, i3⟩, ?_⟩
      exact q2.go G2 (s1.trans s2)
/-- what an iterator walks: the items, and while what it goes on -/
def WalkP (K : PySem.W.Frag) (J : It) (F : Hp) (ds : List D) (Sb : Cells → Prop) : Prop :=
  ∀ (F' : Hp) (M' : Cells) (δ' : Slots) (σ' : L2.St) (H' : Hp), Same F F' → Stt K F' M' δ' σ' H' → Sb M' →
    (∀ i, i < ds.length → J.go i H') ∧ J.stop ds.length H' ∧ ∀ i x H2, i < ds.length → J.yld i H' x H2 → ∃ F2 d, Same F' F2 ∧ Stt K F2 M' δ' σ' H2 ∧ ds[i]? = some d ∧ Rep K F2 x d
def tI (X : Cx) (tg e : Expr) : TI := fun σ H R => ∀ pins s, Inv X pins σ H s → wpAny (model X.prog X.w) X.A (eval e X.env) (fun v s1 => wpAny (model X.prog X.w) X.A (pyIter v) (PIE X pins σ tg R) X.xe s1) X.xe s
theorem pi_sem {tg : Expr} : PI X tg e (tI X tg e) := ⟨fun pins s _ _ _ I h => h pins s I⟩
def upI (K : PySem.W.Frag) (F : Hp) (δ : Slots) (σ : L2.St) (R : List D → (Cells → Prop) → Cells → Prop) : It → Hp → Prop := fun J H' => ∃ F' M' ds Sb, Same F F' ∧ Stt K F' M' δ σ H' ∧ WalkP K J F' ds Sb ∧ R ds Sb M'
def WI (X : Cx) (P : XP) (tg e : Expr) (δ : Slots) (M : Cells) (R : List D → (Cells → Prop) → Cells → Prop) : Prop := ∀ σ H F, Go X P F M δ σ H → tI X tg e σ H (upI X.K F δ σ R)
theorem tI.mono {tg : Expr} {R R' : It → Hp → Prop} (h : tI X tg e σ H R) (k : ∀ J H, R J H → R' J H) : tI X tg e σ H R' := fun pins s I => thn (h pins s I) fun _ _ q => thn q fun _ _ ⟨it, fp, tn, J, H', e1, I', T, t0, f, r⟩ => ⟨it, fp, tn, J, H', e1, I', T, t0, f, k _ _ r⟩
theorem wi_of {tg : Expr} {t : TI} {R : List D → (Cells → Prop) → Cells → Prop} (p : PI X tg e t) (h : ∀ σ H F, Go X P F M δ σ H → t σ H (upI X.K F δ σ R)) : WI X P tg e δ M R := fun σ H F G pins s I => p.run pins s σ H _ I (h σ H F G)
theorem ws_for {tg iter : Expr} (N : Nice X) (h : WI X P tg iter δ M fun ds Sb M1 => ∃ I : Nat → Slots → Cells → Prop, I 0 δ M1 ∧ (∀ i δ' M', i ≤ ds.length → I i δ' M' → Sb M') ∧
      (∀ i d δ' M', ds[i]? = some d → I i δ' M' → WG X P tg d δ' M' fun δ2 M2 => WB X P body δ2 M2 { E with nx := I (i + 1), ct := I (i + 1), bk := E.nx }) ∧ (∀ δ' M', I ds.length δ' M' → E.nx δ' M'))
    (hs : ∀ x, foldedSetIterable iter X.env x = pure x := by intro _; rfl) : WS X P (.For tg iter body [] pos) δ M E :=
  ws_of (ps_for N.own N.calm pi_sem pg_sem pss_sem hs) fun σ H F G => (h σ H F G).mono fun J H1 ⟨F1, M1, ds, Sb, s1, S1, wk, I, i0, iS, iT, iE⟩ => by
    refine ⟨fun i n σ' H' => n = ds.length - i ∧ i ≤ ds.length ∧ ∃ F' M' δ', Same F1 F' ∧ Stt X.K F' M' δ' σ' H' ∧ I i δ' M', ⟨ds.length, by simp, Nat.zero_le _, F1, M1, δ, Same.refl _, S1, i0⟩, ?_⟩
    rintro i n σ2 H2 ⟨rfl, hi, F2, M2, δ2, s2, S2, i2⟩
    obtain ⟨wg, ws, wy⟩ := wk F2 M2 δ2 σ2 H2 s2 S2 (iS i δ2 M2 hi i2)
    by_cases hlt : i < ds.length
    · refine .inr ⟨wg i hlt, upN X.K F1 (I (i + 1)), fun σ3 H3 ⟨F3, M3, δ3, s3, S3, i3⟩ => ⟨ds.length - (i + 1), by omega, rfl, hlt, F3, M3, δ3, s3, S3, i3⟩, fun x H3 y => ?_⟩
      obtain ⟨F3, d, s3, S3, hd, r3⟩ := wy i x H3 hlt y
      have s13 := (s2.trans s3)
      refine (iT i d δ2 M2 hd i2 σ2 H3 F3 x ⟨S3, G.tk.up (s1.trans s13)⟩ r3).mono fun σ4 H4 ⟨F4, M4, δ4, s4, S4, q4⟩ => ?_
      have s14 := s13.trans s4
      refine (q4 σ4 H4 F4 ⟨S4, G.tk.up (s1.trans s14)⟩).mono ⟨fun _ _ q => upN.base s14 q, fun _ _ q => upR.base (s1.trans s14) q, fun _ _ q => upN.base (s1.trans s14) q, fun _ _ q => upN.base s14 q⟩
    · have e : i = ds.length := by omega
      subst e
      exact .inl ⟨ws, nx_ S2 (s1.trans s2) (iE δ2 M2 i2)⟩

theorem walkP_of {K : PySem.W.Frag} {J : It} {n : Nat} {G : Hp → Prop} {Y : Nat → Hp → V → Hp → Prop} (w : L2.Walk J n G Y) {ds : List D} {Sb : Cells → Prop} (hn : ds.length = n) (hG : ∀ (F' : Hp) (M' : Cells) (δ' : Slots) (σ' : L2.St) (H' : Hp), Same F F' → Stt K F' M' δ' σ' H' → Sb M' → G H')
    (hY : ∀ (F' : Hp) (M' : Cells) (δ' : Slots) (σ' : L2.St) (H' : Hp) i x H2, i < n → Same F F' → Stt K F' M' δ' σ' H' → Y i H' x H2 → ∃ F2 d, Same F' F2 ∧ Stt K F2 M' δ' σ' H2 ∧ ds[i]? = some d ∧ Rep K F2 x d) : WalkP K J F ds Sb := by
  intro F' M' δ' σ' H' s S q
  have g := hG F' M' δ' σ' H' s S q
  subst hn
  exact ⟨fun i hi => w.goes i H' hi g, w.stops H' g, fun i x H2 hi y => hY F' M' δ' σ' H' i x H2 hi s S (w.yields i H' x H2 hi g y)⟩
theorem wi_list {tg : Expr} {R : List D → (Cells → Prop) → Cells → Prop} (h : WE X P e δ M fun d M1 => ∃ ds, LV M1 d ds ∧ R ds (fun M' => LV M' d ds) M1) : WI X P tg e δ M R :=
  wi_of (pi_list pe_sem) fun σ H F G => h.go G fun v H1 F1 M1 d s1 G1 r1 ⟨ds, hl, q⟩ => by
    obtain ⟨a, vs, rfl, e1, e2⟩ := G1.st.readL r1 hl
    refine ⟨a, rfl, ⟨vs, e1⟩, F1, M1, ds, _, s1, G1.st, ?_, q⟩
    intro F' M' δ' σ' H' s S hM
    obtain ⟨a', xs, ea, f1, f2⟩ := S.readL (r1.up s) hM
    cases ea
    have w := walk_list (K := X.K) (a := a) (xs := xs)
    refine ⟨fun i hi => w.goes i H' (by rw [f2.length]; exact hi) f1, by rw [← f2.length]; exact w.stops H' f1, fun i x H2 hi y => ?_⟩
    obtain ⟨rfl, y2⟩ := w.yields i H' x H2 (by rw [f2.length]; exact hi) f1 y
    obtain ⟨d', h1, h2⟩ := f2.get' y2
    exact ⟨F', d', Same.refl _, S, h1, h2⟩
theorem wi_tup {tg : Expr} {R : List D → (Cells → Prop) → Cells → Prop} (h : WE X P e δ M fun d M1 => ∃ ds, d = .tup ds ∧ R ds (fun _ => True) M1) : WI X P tg e δ M R :=
  wi_of (pi_tup pe_sem) fun σ H F G => h.go G fun v H1 F1 M1 d s1 G1 r1 ⟨ds, hl, q⟩ => by
    subst hl
    obtain ⟨a, vs, rfl, e1, e2⟩ := G1.st.readT r1
    refine ⟨a, rfl, ⟨vs, e1⟩, F1, M1, ds, _, s1, G1.st, ?_, q⟩
    intro F' M' δ' σ' H' s S hM
    obtain ⟨a', xs, ea, f1, f2⟩ := S.readT (r1.up s)
    cases ea
    have w := walk_tup (K := X.K) (a := a) (xs := xs)
    refine ⟨fun i hi => w.goes i H' (by rw [f2.length]; exact hi) f1, by rw [← f2.length]; exact w.stops H' f1, fun i x H2 hi y => ?_⟩
    obtain ⟨rfl, y2⟩ := w.yields i H' x H2 (by rw [f2.length]; exact hi) f1 y
    obtain ⟨d', h1, h2⟩ := f2.get' y2
    exact ⟨F', d', Same.refl _, S, h1, h2⟩
/-- lo, lo + 1, .. -/
def rangeD (lo : Int) (n : Nat) : List D := (List.range n).map fun i => D.int (lo + (i : Nat))
theorem rangeD_len (lo : Int) (n : Nat) : (rangeD lo n).length = n := by simp [rangeD]
theorem rangeD_get {lo : Int} {n i : Nat} (h : i < n) : (rangeD lo n)[i]? = some (.int (lo + (i : Nat))) := by simp [rangeD, h]
theorem rangeD_inv {lo : Int} {n i : Nat} {d : D} (h : (rangeD lo n)[i]? = some d) : i < n ∧ d = .int (lo + (i : Nat)) := by
  have hi : i < n := by have := (List.getElem?_eq_some_iff.mp h).1; rwa [rangeD_len] at this
  rw [rangeD_get hi] at h
  exact ⟨hi, (Option.some.inj h).symm⟩
theorem walkP_range {K : PySem.W.Frag} {lo : Int} {n : Nat} : WalkP K (Itr lo n) F (rangeD lo n) (fun _ => True) :=
  walkP_of walk_range (rangeD_len lo n) (fun _ _ _ _ _ _ _ _ => trivial) fun F' M' δ' σ' H' i x H2 hi s S y => by
    obtain ⟨rfl, rfl⟩ := y
    exact ⟨F', _, Same.refl _, S, rangeD_get hi, .int _⟩
theorem wi_range1 {tg : Expr} {R : List D → (Cells → Prop) → Cells → Prop} (hg : Gl X "range") (hm : X.mg "range" = none) (h : WA X P [a] δ M fun ds M1 => ∃ j : Int, ds = [.int j] ∧ -(2 ^ 62) ≤ j ∧ j < 2 ^ 62 ∧ R (rangeD 0 j.toNat) (fun _ => True) M1) (hs : starEach [a] X.env = [(false, eval a X.env)] := by rfl) : WI X P tg (.Call (.Name "range" p) [a] [] pos) δ M R :=
  wi_of (pi_range1 hg hm pa_sem hs) fun σ H F G => h.go G fun vs H1 F1 M1 ds s1 G1 r1 ⟨j, e, h1, h2, q⟩ => by
    subst e
    obtain ⟨v, rfl, r⟩ := r1.one
    cases r
    exact ⟨j, rfl, h1, h2, F1, M1, _, _, s1, G1.st, walkP_range, q⟩
theorem wi_range2 {tg : Expr} {R : List D → (Cells → Prop) → Cells → Prop} (hg : Gl X "range") (hm : X.mg "range" = none) (h : WA X P [a, b] δ M fun ds M1 => ∃ i j : Int, ds = [.int i, .int j] ∧ (-(2 ^ 62) ≤ i ∧ i < 2 ^ 62 ∧ -(2 ^ 62) ≤ j ∧ j < 2 ^ 62) ∧ R (rangeD i (j - i).toNat) (fun _ => True) M1) (hs : starEach [a, b] X.env = [(false, eval a X.env), (false, eval b X.env)] := by rfl) (hs2 : starEach [b] X.env = [(false, eval b X.env)] := by rfl) : WI X P tg (.Call (.Name "range" p) [a, b] [] pos) δ M R :=
  wi_of (pi_range2 hg hm pa_sem hs hs2) fun σ H F G => h.go G fun vs H1 F1 M1 ds s1 G1 r1 ⟨i, j, e, h1, q⟩ => by
    subst e
    obtain ⟨v, w, rfl, r, r'⟩ := r1.two
    cases r; cases r'
    exact ⟨i, j, rfl, h1, F1, M1, _, _, s1, G1.st, walkP_range, q⟩
def enumD (ds : List D) : List D := (List.range ds.length).map fun i => D.tup [.int (i : Nat), ds.getD i .non]
theorem enumD_len (ds : List D) : (enumD ds).length = ds.length := by simp [enumD]
theorem enumD_get {ds : List D} {i : Nat} {d : D} (h : ds[i]? = some d) : (enumD ds)[i]? = some (.tup [.int (i : Nat), d]) := by
  have hi := (List.getElem?_eq_some_iff.mp h).1
  have e : ds[i] = d := by
    rw [List.getElem?_eq_getElem hi] at h
    exact Option.some.inj h
  simp [enumD, hi, e]
theorem enumD_inv {ds : List D} {i : Nat} {z : D} (h : (enumD ds)[i]? = some z) : ∃ d, ds[i]? = some d ∧ z = .tup [.int (i : Nat), d] := by
  have hi : i < ds.length := by have := (List.getElem?_eq_some_iff.mp h).1; rwa [enumD_len] at this
  have e : ds[i]? = some ds[i] := by simp
  rw [enumD_get e] at h
  exact ⟨_, e, (Option.some.inj h).symm⟩
/-- a new pair is laid -/
theorem Stt.pair {K : PySem.W.Frag} (S : Stt K F M δ σ H) {T : Addr} {x y : V} {d d' : D} (hT : H T = none) (rx : Rep K F x d) (ry : Rep K F y d') : Same F (upd F T (.tup [x, y])) ∧ Stt K (upd F T (.tup [x, y])) M δ σ (upd H T (.tup [x, y])) ∧ Rep K (upd F T (.tup [x, y])) (.ref T) (.tup [d, d']) := by
  obtain ⟨S', s'⟩ := S.froz (o := .tup [x, y]) hT
  exact ⟨s', S', .tup (.of upd_same) (.cons (rx.up s') (.cons (ry.up s') .nil))⟩
theorem wi_enum {elts : List Expr} {kk : Nat} {tpos : Pos} {R : List D → (Cells → Prop) → Cells → Prop} (hg : Gl X "enumerate") (hm : X.mg "enumerate" = none) (h : WA X P [e] δ M fun ds M1 => ∃ d xs, ds = [d] ∧ LV M1 d xs ∧ R (enumD xs) (fun M' => LV M' d xs) M1) (hs : starEach [e] X.env = [(false, eval e X.env)] := by rfl) : WI X P (.Tuple elts kk tpos) (.Call (.Name "enumerate" p) [e] [] pos) δ M R :=
  wi_of (pi_enum hg hm pa_sem hs) fun σ H F G => h.go G fun vs H1 F1 M1 ds s1 G1 r1 ⟨d, xs, ed, hl, q⟩ => by
    subst ed
    obtain ⟨v, rfl, r⟩ := r1.one
    obtain ⟨a, vs, rfl, e1, e2⟩ := G1.st.readL r hl
    refine ⟨a, vs, rfl, e1, F1, M1, _, _, s1, G1.st, ?_, q⟩
    intro F' M' δ' σ' H' s S hM
    obtain ⟨a', ys, ea, f1, f2⟩ := S.readL (r.up s) hM
    cases ea
    have w := walk_enum (K := X.K) (a := a) (xs := ys)
    rw [enumD_len]
    refine ⟨fun i hi => w.goes i H' (by rw [f2.length]; exact hi) f1, by rw [← f2.length]; exact w.stops H' f1, fun i x H2 hi y => ?_⟩
    obtain ⟨T, x1, x2, rfl, hT, rfl, h1, h2⟩ := w.yields i H' x H2 (by rw [f2.length]; exact hi) f1 y
    cases h1
    obtain ⟨d', g1, g2⟩ := f2.get' h2
    obtain ⟨s', S', r'⟩ := S.pair hT (.int _) g2
    exact ⟨_, _, s', S', enumD_get g1, r'⟩
def zipD (xs ys : List D) : List D := (xs.zip ys).map fun p => D.tup [p.1, p.2]
theorem zipD_len (xs ys : List D) : (zipD xs ys).length = min xs.length ys.length := by simp [zipD]
theorem zipD_get {xs ys : List D} {i : Nat} {x y : D} (h : xs[i]? = some x) (g : ys[i]? = some y) : (zipD xs ys)[i]? = some (.tup [x, y]) := by
  have e : (xs.zip ys)[i]? = some (x, y) := List.getElem?_zip_eq_some.mpr ⟨h, g⟩
  unfold zipD
  rw [List.getElem?_map, e]
  rfl
theorem zipD_inv {xs ys : List D} {i : Nat} {z : D} (h : (zipD xs ys)[i]? = some z) : ∃ x y, xs[i]? = some x ∧ ys[i]? = some y ∧ z = .tup [x, y] := by
  unfold zipD at h
  rw [List.getElem?_map] at h
  cases e : (xs.zip ys)[i]? with
  | none => rw [e] at h; cases h
  | some q =>
    rw [e] at h
    obtain ⟨h1, h2⟩ := List.getElem?_zip_eq_some.mp e
    exact ⟨_, _, h1, h2, (Option.some.inj h).symm⟩
theorem wi_zip {elts : List Expr} {kk : Nat} {tpos : Pos} {R : List D → (Cells → Prop) → Cells → Prop} (hg : Gl X "zip") (hm : X.mg "zip" = none) (h : WA X P [a, b] δ M fun ds M1 => ∃ d1 d2 xs ys, ds = [d1, d2] ∧ LV M1 d1 xs ∧ LV M1 d2 ys ∧ R (zipD xs ys) (fun M' => LV M' d1 xs ∧ LV M' d2 ys) M1)
    (hs : starEach [a, b] X.env = (false, eval a X.env) :: starEach [b] X.env := by rfl) (hpl : (backTo pos (starEach [b] X.env)).any (·.1) = false := by rfl) : WI X P (.Tuple elts kk tpos) (.Call (.Name "zip" p) [a, b] [] pos) δ M R :=
  wi_of (pi_zip hg hm pa_sem hs hpl) fun σ H F G => h.go G fun vs H1 F1 M1 ds s1 G1 r1 ⟨d1, d2, xs, ys, ed, hl1, hl2, q⟩ => by
    subst ed
    obtain ⟨v, v2, rfl, r, r'⟩ := r1.two
    obtain ⟨a, vs, rfl, e1, e2⟩ := G1.st.readL r hl1
    obtain ⟨a', vs', rfl, e1', e2'⟩ := G1.st.readL r' hl2
    refine ⟨a, a', vs, vs', rfl, e1, e1', F1, M1, _, _, s1, G1.st, ?_, q⟩
    intro F' M' δ' σ' H' s S hM
    obtain ⟨_, zs, ea, f1, f2⟩ := S.readL (r.up s) hM.1
    cases ea
    obtain ⟨_, zs', ea, f1', f2'⟩ := S.readL (r'.up s) hM.2
    cases ea
    have w := walk_zip (K := X.K) (a := a) (b := a') (xs := zs) (ys := zs') rfl
    rw [zipD_len]
    have el : min xs.length ys.length = min zs.length zs'.length := by rw [f2.length, f2'.length]
    rw [el]
    refine ⟨fun i hi => w.goes i H' hi ⟨f1, f1'⟩, w.stops H' ⟨f1, f1'⟩, fun i x H2 hi y => ?_⟩
    obtain ⟨T, x1, x2, rfl, hT, rfl, h1, h2⟩ := w.yields i H' x H2 hi ⟨f1, f1'⟩ y
    obtain ⟨z1, g1, g2⟩ := f2.get' h1
    obtain ⟨z2, g3, g4⟩ := f2'.get' h2
    obtain ⟨s', S', r'⟩ := S.pair hT g2 g4
    exact ⟨_, _, s', S', zipD_get g1 g3, r'⟩
end
end PW
/-! PW5 -/
namespace PW
open PySem L2 PyProof.Rows

def wipeD (δ : Slots) : List Nat → Slots
  | [] => δ
  | v :: vs => (wipeD δ vs).set v none
theorem wipeD_length (δ : Slots) : ∀ vs : List Nat, (wipeD δ vs).length = δ.length
  | [] => rfl
  | v :: vs => by unfold wipeD; rw [List.length_set, wipeD_length δ vs]
theorem wipeD_some {δ : Slots} {i : Nat} {x : D} : ∀ {vs : List Nat}, (wipeD δ vs)[i]? = some (some x) → δ[i]? = some (some x) ∧ i ∉ vs
  | [], h => ⟨h, by simp⟩
  | v :: vs, h => by
    unfold wipeD at h
    rcases getElem?_set_cases h with ⟨_, e⟩ | ⟨h1, h2⟩
    · cases e
    · obtain ⟨h3, h4⟩ := wipeD_some h2
      exact ⟨h3, by simp only [List.mem_cons, not_or]; exact ⟨h1, h4⟩⟩
theorem Stt.wipe {K : PySem.W.Frag} {F : Hp} {M : Cells} {δ : Slots} {σ : L2.St} {H : Hp} (S : Stt K F M δ σ H) (vs : List Nat) : Stt K F M (wipeD δ vs) (L2.wipe σ vs) H :=
  S.slots (by rw [wipeD_length, L2.wipe_length]; exact S.dlen) fun i d h => by
    obtain ⟨h1, h2⟩ := wipeD_some h
    obtain ⟨v, e1, e2⟩ := S.slot i d h1
    exact ⟨v, by rw [L2.wipe_out h2]; exact e1, e2⟩
/-- the context of a comprehension's block -/
structure BK where
  s0 : Shared
  H0 : Hp
  C : Addr
  cl : List (Str × Addr)
  fp : List Addr
abbrev Bx (X : Cx) (scope : Scope) (b : BK) : Cx := X.blk b.s0 b.H0 scope (compEnvC scope b.cl b.C X.env) b.fp
theorem Reps.three {K : PySem.W.Frag} {F : Hp} {vs : List V} {d e f : D} (h : Reps K F vs [d, e, f]) : ∃ v w u, vs = [v, w, u] ∧ Rep K F v d ∧ Rep K F w e ∧ Rep K F u f := by
  cases h with
  | cons a b =>
    obtain ⟨w, u, rfl, r1, r2⟩ := b.two
    exact ⟨_, w, u, rfl, a, r1, r2⟩
/-- how a target binds the item in the block's slots: one name, two names -/
inductive Tg (X : Cx) (scope : Scope) : Expr → List (Str × Nat) → (D → Slots → Slots → Prop) → TG → Prop
  | one {x : Str} {i : Nat} {pos : Pos} (hi : X.N[i]? = some x) (hx : scope.names.lookup x = some .local) : Tg X scope (.Name x pos) [(x, i)] (fun d δ δ' => δ' = δ.set i (some d)) (gName i)
  | two {x y : Str} {i j : Nat} {px py pos : Pos} {kk : Nat} (hi : X.N[i]? = some x) (hj : X.N[j]? = some y) (hij : i ≠ j) (hx : scope.names.lookup x = some .local) (hy : scope.names.lookup y = some .local) :
      Tg X scope (.Tuple [.Name x px, .Name y py] kk pos) [(x, i), (y, j)] (fun d δ δ' => ∃ d1 d2, d = .tup [d1, d2] ∧ δ' = (δ.set i (some d1)).set j (some d2)) (gTup X.K 2 (gCons (gName i) (gCons (gName j) gNil)))
  | three {x y z : Str} {i j k : Nat} {px py pz pos : Pos} {kk : Nat} (hi : X.N[i]? = some x) (hj : X.N[j]? = some y) (hk : X.N[k]? = some z) (hne : i ≠ j ∧ i ≠ k ∧ j ≠ k) (hx : scope.names.lookup x = some .local) (hy : scope.names.lookup y = some .local) (hz : scope.names.lookup z = some .local) :
      Tg X scope (.Tuple [.Name x px, .Name y py, .Name z pz] kk pos) [(x, i), (y, j), (z, k)] (fun d δ δ' => ∃ d1 d2 d3, d = .tup [d1, d2, d3] ∧ δ' = ((δ.set i (some d1)).set j (some d2)).set k (some d3)) (gTup X.K 3 (gCons (gName i) (gCons (gName j) (gCons (gName k) gNil))))
  | four {x y z u : Str} {i j k l : Nat} {px py pz pu pa pb pos : Pos} {kk ka kb : Nat} (hi : X.N[i]? = some x) (hj : X.N[j]? = some y) (hk : X.N[k]? = some z) (hl : X.N[l]? = some u) (hne : i ≠ j ∧ i ≠ k ∧ i ≠ l ∧ j ≠ k ∧ j ≠ l ∧ k ≠ l)
      (hx : scope.names.lookup x = some .local) (hy : scope.names.lookup y = some .local) (hz : scope.names.lookup z = some .local) (hu : scope.names.lookup u = some .local) :
      Tg X scope (.Tuple [.Tuple [.Name x px, .Name y py] ka pa, .Tuple [.Name z pz, .Name u pu] kb pb] kk pos) [(x, i), (y, j), (z, k), (u, l)] (fun d δ δ' => ∃ d1 d2 d3 d4, d = .tup [.tup [d1, d2], .tup [d3, d4]] ∧ δ' = (((δ.set i (some d1)).set j (some d2)).set k (some d3)).set l (some d4))
      (gTup X.K 2 (gCons (gTup X.K 2 (gCons (gName i) (gCons (gName j) gNil))) (gCons (gTup X.K 2 (gCons (gName k) (gCons (gName l) gNil))) gNil)))
section
variable {X : Cx} {P : XP} {F : Hp} {M : Cells} {δ : Slots} {σ : L2.St} {H : Hp} {e a b c o elt iter tg : Expr} {es ifs : List Expr} {pos apos cpos p p2 : Pos} {scope : Scope} {own : List (Str × Nat)} {bind : D → Slots → Slots → Prop} {g : TG}
theorem blk_loc {scope : Scope} {x : Str} {cl : List (Str × Addr)} {C : Addr} {env : Env} (hx : scope.names.lookup x = some .local) : (compEnvC scope cl C env).scope.names.lookup x = some .local := lookup_relabel_local hx
theorem Tg.pg (N : Nice X) (T : Tg X scope tg own bind g) (s : Shared) (H : Hp) (C : Addr) (cl : List (Str × Addr)) (fp : List Addr) : PG (X.blk s H scope (compEnvC scope cl C X.env) fp) tg g := by
  cases T with
  | one hi hx => exact pg_name N.nd hi (.inl (blk_loc hx)) (.inr (blk_loc hx))
  | two hi hj hij hx hy => exact pg_tup N.calm (pgs_cons (pg_name N.nd hi (.inl (blk_loc hx)) (.inr (blk_loc hx))) (pgs_cons (pg_name N.nd hj (.inl (blk_loc hy)) (.inr (blk_loc hy))) pgs_nil))
  | three hi hj hk hne hx hy hz => exact pg_tup N.calm (pgs_cons (pg_name N.nd hi (.inl (blk_loc hx)) (.inr (blk_loc hx))) (pgs_cons (pg_name N.nd hj (.inl (blk_loc hy)) (.inr (blk_loc hy))) (pgs_cons (pg_name N.nd hk (.inl (blk_loc hz)) (.inr (blk_loc hz))) pgs_nil)))
  | four hi hj hk hl hne hx hy hz hu => exact pg_tup N.calm (pgs_cons (pg_tup N.calm (pgs_cons (pg_name N.nd hi (.inl (blk_loc hx)) (.inr (blk_loc hx))) (pgs_cons (pg_name N.nd hj (.inl (blk_loc hy)) (.inr (blk_loc hy))) pgs_nil)))
      (pgs_cons (pg_tup N.calm (pgs_cons (pg_name N.nd hk (.inl (blk_loc hz)) (.inr (blk_loc hz))) (pgs_cons (pg_name N.nd hl (.inl (blk_loc hu)) (.inr (blk_loc hu))) pgs_nil))) pgs_nil))
theorem Tg.run {d : D} {δ' : Slots} {x : V} (T : Tg X scope tg own bind g) (S : Stt X.K F M δ σ H) (r : Rep X.K F x d) (hb : bind d (wipeD δ (own.map (·.2))) δ') {K' : L2.St → Hp → Prop}
    (k : ∀ σ', Stt X.K F M δ' σ' H → L2.wipe σ' (own.map (·.2)) = L2.wipe σ (own.map (·.2)) → K' σ' H) : g x (L2.wipe σ (own.map (·.2))) H K' := by
  cases T with
  | @one y i _ hi hx =>
    subst hb
    refine k _ ((S.wipe [i]).setSlot r) ?_
    show ((σ.set i none).set i (some x)).set i none = σ.set i none
    rw [List.set_set, List.set_set]
  | @two y z i j _ _ _ _ hi hj hij hx hy =>
    obtain ⟨d1, d2, rfl, rfl⟩ := hb
    obtain ⟨a, vs, rfl, e1, e2⟩ := S.readT r
    obtain ⟨v, w, rfl, r1, r2⟩ := e2.two
    refine ⟨a, [v, w], rfl, e1, rfl, v, [w], rfl, w, [], rfl, rfl, k _ (((S.wipe [i, j]).setSlot r1).setSlot r2) ?_⟩
    show (((((σ.set j none).set i none).set i (some v)).set j (some w)).set j none).set i none = (σ.set j none).set i none
    rw [List.set_set, List.set_set, List.set_comm _ _ hij, List.set_set, List.set_set, List.set_comm _ _ (Ne.symm hij)]
  | @three y z u2 i j k4 _ _ _ _ _ hi hj hk hne hx hy hz =>
    obtain ⟨d1, d2, d3, rfl, rfl⟩ := hb
    obtain ⟨a, vs, rfl, e1, e2⟩ := S.readT r
    obtain ⟨v, w, u, rfl, r1, r2, r3⟩ := e2.three
    refine ⟨a, [v, w, u], rfl, e1, rfl, v, [w, u], rfl, w, [u], rfl, u, [], rfl, rfl, k _ ((((S.wipe [i, j, k4]).setSlot r1).setSlot r2).setSlot r3) ?_⟩
    refine List.ext_getElem? fun n => ?_
    show (((((((((σ.set k4 none).set j none).set i none).set i (some v)).set j (some w)).set k4 (some u)).set k4 none).set j none).set i none)[n]? = (((σ.set k4 none).set j none).set i none)[n]?
    simp only [List.getElem?_set, List.length_set]
    by_cases a1 : i = n <;> by_cases a2 : j = n <;> by_cases a3 : k4 = n <;> simp [a1, a2, a3]
  | @four y z u2 u3 i j k4 l4 _ _ _ _ _ _ _ _ _ _ hi hj hk hl hne hx hy hz hu =>
    obtain ⟨d1, d2, d3, d4, rfl, rfl⟩ := hb
    obtain ⟨a, vs, rfl, e1, e2⟩ := S.readT r
    obtain ⟨v, w, rfl, r1, r2⟩ := e2.two
    obtain ⟨a1, vs1, rfl, e11, e12⟩ := S.readT r1
    obtain ⟨a2, vs2, rfl, e21, e22⟩ := S.readT r2
    obtain ⟨v1, w1, rfl, r11, r12⟩ := e12.two
    obtain ⟨v2, w2, rfl, r21, r22⟩ := e22.two
    refine ⟨a, [_, _], rfl, e1, rfl, _, [_], rfl, a1, [v1, w1], rfl, e11, rfl, v1, [w1], rfl, w1, [], rfl, rfl, _, [], rfl, a2, [v2, w2], rfl, e21, rfl, v2, [w2], rfl, w2, [], rfl, rfl, rfl, k _ (((((S.wipe [i, j, k4, l4]).setSlot r11).setSlot r12).setSlot r21).setSlot r22) ?_⟩
    refine List.ext_getElem? fun n => ?_
    show ((((((((((((σ.set l4 none).set k4 none).set j none).set i none).set i (some v1)).set j (some w1)).set k4 (some v2)).set l4 (some w2)).set l4 none).set k4 none).set j none).set i none)[n]? = ((((σ.set l4 none).set k4 none).set j none).set i none)[n]?
    simp only [List.getElem?_set, List.length_set]
    by_cases a1 : i = n <;> by_cases a2 : j = n <;> by_cases a3 : k4 = n <;> by_cases a4 : l4 = n <;> simp [a1, a2, a3, a4]
/-- a block's tests -/
def Tt (K : PySem.W.Frag) (tt : TT) (δ : Slots) (M : Cells) (Q : Bool → Cells → Prop) : Prop := ∀ σ H F (Q' : Bool → Hp → Prop), Stt K F M δ σ H → (∀ k H', upT K F δ σ Q k H' → Q' k H') → tt σ H Q'
/-- a list comprehension with one for, as an expression or as what a name is set to -/
def LC (X : Cx) (P : XP) (elt tg iter : Expr) (ifs : List Expr) (scope : Scope) (δ : Slots) (M : Cells) (Q : D → Cells → Prop) : Prop :=
  ∃ (own : List (Str × Nat)) (g : TG) (tt : TT) (te : TE), BlkOk X.N X.env.scope scope own ∧ (∀ (s : Shared) (H : Hp) (C : Addr) (cl : List (Str × Addr)) (fp : List Addr), PG (X.blk s H scope (compEnvC scope cl C X.env) fp) tg g) ∧
    (∀ (s : Shared) (H : Hp) (C : Addr) (cl : List (Str × Addr)) (fp : List Addr), PTs (X.blk s H scope (compEnvC scope cl C X.env) fp) ifs tt) ∧ (∀ (s : Shared) (H : Hp) (C : Addr) (cl : List (Str × Addr)) (fp : List Addr), PE (X.blk s H scope (compEnvC scope cl C X.env) fp) elt te) ∧
    (∀ x, foldedSetIterable iter X.env x = pure x) ∧ ∀ σ H F (Q' : VK), Go X P F M δ σ H → (∀ v H', upE X.K F δ σ Q v H' → Q' v H') → tLc (tI X tg iter) g tt te (own.map (·.2)) σ H Q'
theorem we_ofLC {Q : D → Cells → Prop} (N : Nice X) (h : LC X P elt tg iter ifs scope δ M Q) : WE X P (.ListComp elt [⟨tg, iter, ifs, 0⟩] scope pos) δ M Q := by
  obtain ⟨own, g, tt, te, ok, pg, pts, pe, hs, r⟩ := h
  exact we_of (pe_lc N.calm N.nd pi_sem ok pg pts pe hs) fun σ H F G => r σ H F _ G fun _ _ z => z
/-- name = [..] on one line, the name a local -/
theorem ws_setLC {E : En} {i : Nat} {y : Str} {py spos : Pos} (N : Nice X) (hi : X.N[i]? = some y) (hyl : X.env.scope.names.lookup y = some .local) (h : LC X P elt tg iter ifs scope δ M fun d M' => E.nx (δ.set i (some d)) M')
    (hk : X.env.scope.kind = .function := by rfl) (hl : (py.line == pos.line) = true := by rfl) (ha : (scope.names.any fun (n, k) => n == y && (k == .local || k == .cell)) = false := by rfl) :
    WS X P (.Assign [.Name y py] (.ListComp elt [⟨tg, iter, ifs, 0⟩] scope pos) spos) δ M E := by
  obtain ⟨own, g, tt, te, ok, pg, pts, pe, hs, r⟩ := h
  exact ws_of (ps_setLc N.calm N.nd hi hyl (sw_true hk hyl hl ha) pi_sem ok pg pts pe hs) fun σ H F G => r σ H F _ G fun v H' ⟨F', M', d, s, S, rr, q⟩ => nx_ (S.setSlot rr) s q
theorem lc_froz (k : Nat) {Q : D → Cells → Prop} (h : LC X P elt tg iter ifs scope δ M fun d M1 => ∃ (p : Addr) (ds : List D), d = .cel p ∧ M1[k]? = some (p, .lst ds) ∧ Q (.lst ds) (M1.eraseIdx k)) : LC X P elt tg iter ifs scope δ M Q := by
  obtain ⟨own, g, tt, te, ok, pg, pts, pe, hs, r⟩ := h
  refine ⟨own, g, tt, te, ok, pg, pts, pe, hs, fun σ H F Q' G k' => r σ H F Q' G fun v H' ⟨F1, M1, d, s1, S1, r1, p, ds, e, hk, q⟩ => ?_⟩
  subst e
  cases r1
  obtain ⟨F2, s2, S2, r2⟩ := S1.freeze hk
  exact k' _ _ (ret S2 (s1.trans s2) r2 q)
theorem lc_main (N : Nice X) (T : Tg X scope tg own bind g) (ok : BlkOk X.N X.env.scope scope own) {tt : TT} (ht : ∀ (s : Shared) (H : Hp) (C : Addr) (cl : List (Str × Addr)) (fp : List Addr), PTs (X.blk s H scope (compEnvC scope cl C X.env) fp) ifs tt) {Q : D → Cells → Prop}
    (h : WI X P tg iter δ M fun ds Sb M1 => ∃ J : Nat → List D → Cells → Prop, J 0 [] M1 ∧ (∀ i acc M' p, i ≤ ds.length → J i acc M' → Sb ((p, .lst acc) :: M')) ∧
      (∀ i d acc M' p, ds[i]? = some d → J i acc M' → ∃ δ', bind d (wipeD δ (own.map (·.2))) δ' ∧ Tt X.K tt δ' ((p, .lst acc) :: M') fun k M2 =>
        if k = true then ∀ B : BK, WE (Bx X scope B) PX0 elt δ' M2 fun y M3 => ∃ acc' M4, M3 = (p, .lst acc') :: M4 ∧ acc'.length < sizeLine ∧ J (i + 1) (acc' ++ [y]) M4
        else ∃ acc' M4, M2 = (p, .lst acc') :: M4 ∧ J (i + 1) acc' M4) ∧
      ∀ acc M' p, J ds.length acc M' → Q (.cel p) ((p, .lst acc) :: M'))
    (hs : ∀ x, foldedSetIterable iter X.env x = pure x) : LC X P elt tg iter ifs scope δ M Q := by
  refine ⟨own, g, tt, fun σ H Q => ∀ B : BK, tE (Bx X scope B) elt σ H Q, ok, T.pg N, ht, fun s H C cl fp => ⟨fun pins s' σ H' Q I h => h ⟨s, H, C, cl, fp⟩ pins s' I⟩, hs, fun σ H F Q' G kq => ?_⟩
  refine (h σ H F G).mono fun J H1 ⟨F1, M1, ds, Sb, s1, S1, wk, Jv, j0, jS, jT, jE⟩ => fun D hD => ?_
  refine ⟨fun i m H' => m = ds.length - i ∧ i ≤ ds.length ∧ ∃ F' M' acc, Same F1 F' ∧ Stt X.K F' ((D, .lst acc) :: M') δ σ H' ∧ Jv i acc M', ⟨ds.length, by simp, Nat.zero_le _, F1, M1, [], Same.refl _, S1.newL hD .nil, j0⟩, ?_⟩
  rintro i m H2 ⟨rfl, hi, F2, M2, acc, s2, S2, j2⟩
  obtain ⟨wg, ws, wy⟩ := wk F2 _ δ σ H2 s2 S2 (jS i acc M2 D hi j2)
  by_cases hlt : i < ds.length
  · refine .inr ⟨wg i hlt, fun H' => ∃ F' M' acc', Same F1 F' ∧ Stt X.K F' ((D, .lst acc') :: M') δ σ H' ∧ Jv (i + 1) acc' M', fun H' ⟨F', M', acc', s', S', j'⟩ => ⟨ds.length - (i + 1), by omega, rfl, hlt, F', M', acc', s', S', j'⟩, fun x H3 y => ?_⟩
    obtain ⟨F3, d, s3, S3, hd, r3⟩ := wy i x H3 hlt y
    obtain ⟨δ', hb, hT⟩ := jT i d acc M2 D hd j2
    refine T.run S3 r3 hb fun σ' S' ew => ⟨ew, hT σ' H3 F3 _ S' fun k H4 ⟨F4, M4, s4, S4, q4⟩ => ?_⟩
    have s14 : Same F1 F4 := (s2.trans s3).trans s4
    cases k with
    | false =>
      rw [if_neg (by decide)] at q4 ⊢
      obtain ⟨acc', M5, rfl, j5⟩ := q4
      exact ⟨F4, M5, acc', s14, S4.keep S1 s14, j5⟩
    | true =>
      rw [if_pos rfl] at q4 ⊢
      intro B
      refine (q4 B).go ⟨S4, TakesP.none⟩ fun yv H5 F5 M5 yd s5 G5 r5 q5 => ?_
      obtain ⟨acc', M6, rfl, hl, j6⟩ := q5
      obtain ⟨vs, e1, e2, e3⟩ := G5.st.cellAt (List.Mem.head _)
      have S6 := G5.st.setCell (k := 0) (c' := .lst (acc' ++ [yd])) rfl ⟨vs ++ [yv], upd_same, e3.append (.cons r5 .nil)⟩
      exact ⟨vs, e1, by rw [e3.length]; exact hl, F5, M6, acc' ++ [yd], s14.trans s5, Stt.keep (K := X.K) S6 S1 (s14.trans s5), j6⟩
  · have e : i = ds.length := by omega
    subst e
    exact .inl ⟨ws, kq _ _ (ret S2 (s1.trans s2) (.cel D) (jE acc M2 D j2))⟩
/-- no test -/
theorem lc_lc (N : Nice X) (T : Tg X scope tg own bind g) (ok : BlkOk X.N X.env.scope scope own) {Q : D → Cells → Prop}
    (h : WI X P tg iter δ M fun ds Sb M1 => ∃ J : Nat → List D → Cells → Prop, J 0 [] M1 ∧ (∀ i acc M' p, i ≤ ds.length → J i acc M' → Sb ((p, .lst acc) :: M')) ∧
      (∀ i d acc M' p, ds[i]? = some d → J i acc M' → ∃ δ', bind d (wipeD δ (own.map (·.2))) δ' ∧ ∀ B : BK, WE (Bx X scope B) PX0 elt δ' ((p, .lst acc) :: M') fun y M3 => ∃ acc' M4, M3 = (p, .lst acc') :: M4 ∧ acc'.length < sizeLine ∧ J (i + 1) (acc' ++ [y]) M4) ∧
      ∀ acc M' p, J ds.length acc M' → Q (.cel p) ((p, .lst acc) :: M'))
    (hs : ∀ x, foldedSetIterable iter X.env x = pure x := by intro _; rfl) : LC X P elt tg iter [] scope δ M Q := by
  refine lc_main N T ok (fun _ _ _ _ _ => pts_nil) ?_ hs
  intro σ H F G
  refine (h σ H F G).mono fun J H1 ⟨F1, M1, ds, Sb, s1, S1, wk, Jv, j0, jS, jT, jE⟩ => ⟨F1, M1, ds, Sb, s1, S1, wk, Jv, j0, jS, fun i d acc M' p hd j => ?_, jE⟩
  obtain ⟨δ', hb, hB⟩ := jT i d acc M' p hd j
  exact ⟨δ', hb, fun σ H F Q' S k => k true H ⟨F, _, Same.refl _, S, by show (if true = true then _ else _); rw [if_pos rfl]; exact hB⟩⟩
/-- one test -/
theorem lc_lcIf (N : Nice X) (T : Tg X scope tg own bind g) (ok : BlkOk X.N X.env.scope scope own) {Q : D → Cells → Prop}
    (h : WI X P tg iter δ M fun ds Sb M1 => ∃ J : Nat → List D → Cells → Prop, J 0 [] M1 ∧ (∀ i acc M' p, i ≤ ds.length → J i acc M' → Sb ((p, .lst acc) :: M')) ∧
      (∀ i d acc M' p, ds[i]? = some d → J i acc M' → ∃ δ', bind d (wipeD δ (own.map (·.2))) δ' ∧ ∀ B : BK, WT (Bx X scope B) PX0 c δ' ((p, .lst acc) :: M') fun k M2 =>
        if k = true then ∀ B : BK, WE (Bx X scope B) PX0 elt δ' M2 fun y M3 => ∃ acc' M4, M3 = (p, .lst acc') :: M4 ∧ acc'.length < sizeLine ∧ J (i + 1) (acc' ++ [y]) M4
        else ∃ acc' M4, M2 = (p, .lst acc') :: M4 ∧ J (i + 1) acc' M4) ∧
      ∀ acc M' p, J ds.length acc M' → Q (.cel p) ((p, .lst acc) :: M'))
    (hs : ∀ x, foldedSetIterable iter X.env x = pure x := by intro _; rfl) : LC X P elt tg iter [c] scope δ M Q := by
  refine lc_main (tt := fun σ H Q => ∀ B : BK, tT (Bx X scope B) c σ H Q) N T ok (fun s H C cl fp => pts_one ⟨fun pins s' σ H' Q I h => h ⟨s, H, C, cl, fp⟩ pins s' I⟩) ?_ hs
  intro σ H F G
  refine (h σ H F G).mono fun J H1 ⟨F1, M1, ds, Sb, s1, S1, wk, Jv, j0, jS, jT, jE⟩ => ⟨F1, M1, ds, Sb, s1, S1, wk, Jv, j0, jS, fun i d acc M' p hd j => ?_, jE⟩
  obtain ⟨δ', hb, hB⟩ := jT i d acc M' p hd j
  exact ⟨δ', hb, fun σ H F Q' S k B => (hB B).go ⟨S, TakesP.none⟩ fun v H' F' M' s G' q => k v H' ⟨F', M', s, G'.st, q⟩⟩
/-- the elements by a function of the item, the cells as they were -/
theorem lc_lcM (f : D → D) (N : Nice X) (T : Tg X scope tg own bind g) (ok : BlkOk X.N X.env.scope scope own) {Q : D → Cells → Prop}
    (h : WI X P tg iter δ M fun ds Sb M1 => ds.length ≤ sizeLine ∧ (∀ p acc, Sb ((p, .lst acc) :: M1)) ∧
      (∀ (i : Nat) d acc p, ds[i]? = some d → ∃ δ', bind d (wipeD δ (own.map (·.2))) δ' ∧ ∀ B : BK, WE (Bx X scope B) PX0 elt δ' ((p, .lst acc) :: M1) fun y M3 => M3 = (p, .lst acc) :: M1 ∧ y = f d) ∧
      ∀ p, Q (.cel p) ((p, .lst (ds.map f)) :: M1))
    (hs : ∀ x, foldedSetIterable iter X.env x = pure x := by intro _; rfl) : LC X P elt tg iter [] scope δ M Q := by
  refine lc_lc N T ok ?_ hs
  intro σ H F G
  refine (h σ H F G).mono fun J H1 ⟨F1, M1, ds, Sb, s1, S1, wk, hl, hS, hT, hE⟩ => ⟨F1, M1, ds, Sb, s1, S1, wk, fun i acc M' => M' = M1 ∧ acc = (ds.take i).map f, ⟨rfl, by simp⟩, fun i acc M' p hi ⟨e1, e2⟩ => by subst e1; exact hS p acc, fun i d acc M' p hd ⟨e1, e2⟩ => ?_, fun acc M' p ⟨e1, e2⟩ => by subst e1 e2; simpa using hE p⟩
  subst e1
  obtain ⟨δ', hb, hB⟩ := hT i d acc p hd
  have hi := (List.getElem?_eq_some_iff.mp hd).1
  refine ⟨δ', hb, fun B => (hB B).imp fun y M3 ⟨e3, e4⟩ => ⟨acc, _, e3, ?_, rfl, ?_⟩⟩
  · rw [e2, List.length_map, List.length_take]; omega
  · rw [e4, e2, List.take_succ, hd]; simp
/-- and a test by a function of the item -/
theorem lc_lcF (k : D → Bool) (f : D → D) (N : Nice X) (T : Tg X scope tg own bind g) (ok : BlkOk X.N X.env.scope scope own) {Q : D → Cells → Prop}
    (h : WI X P tg iter δ M fun ds Sb M1 => ds.length ≤ sizeLine ∧ (∀ p acc, Sb ((p, .lst acc) :: M1)) ∧
      (∀ (i : Nat) d acc p, ds[i]? = some d → ∃ δ', bind d (wipeD δ (own.map (·.2))) δ' ∧ ∀ B : BK, WT (Bx X scope B) PX0 c δ' ((p, .lst acc) :: M1) fun z M2 => M2 = (p, .lst acc) :: M1 ∧ z = k d ∧ (k d = true → ∀ B : BK, WE (Bx X scope B) PX0 elt δ' ((p, .lst acc) :: M1) fun y M3 => M3 = (p, .lst acc) :: M1 ∧ y = f d)) ∧
      ∀ p, Q (.cel p) ((p, .lst ((ds.filter k).map f)) :: M1))
    (hs : ∀ x, foldedSetIterable iter X.env x = pure x := by intro _; rfl) : LC X P elt tg iter [c] scope δ M Q := by
  refine lc_lcIf N T ok ?_ hs
  intro σ H F G
  refine (h σ H F G).mono fun J H1 ⟨F1, M1, ds, Sb, s1, S1, wk, hl, hS, hT, hE⟩ => ⟨F1, M1, ds, Sb, s1, S1, wk, fun i acc M' => M' = M1 ∧ acc = ((ds.take i).filter k).map f, ⟨rfl, by simp⟩, fun i acc M' p hi ⟨e1, e2⟩ => by subst e1; exact hS p acc, fun i d acc M' p hd ⟨e1, e2⟩ => ?_, fun acc M' p ⟨e1, e2⟩ => by subst e1 e2; simpa using hE p⟩
  subst e1
  obtain ⟨δ', hb, hB⟩ := hT i d acc p hd
  have hi := (List.getElem?_eq_some_iff.mp hd).1
  refine ⟨δ', hb, fun B => (hB B).imp fun z M2 ⟨e3, e4, e5⟩ => ?_⟩
  subst e3 e4
  have el : acc.length < sizeLine := by
    rw [e2, List.length_map]
    have := List.length_filter_le k (ds.take i)
    rw [List.length_take] at this; omega
  cases hk : k d with
  | false =>
    rw [if_neg (by decide)]
    refine ⟨acc, _, rfl, rfl, ?_⟩
    rw [e2, List.take_succ, hd]; simp [hk]
  | true =>
    rw [if_pos rfl]
    refine fun B => (e5 hk B).imp fun y M3 ⟨e6, e7⟩ => ⟨acc, _, e6, el, rfl, ?_⟩
    rw [e7, e2, List.take_succ, hd]; simp [hk]

theorem we_lc (N : Nice X) (T : Tg X scope tg own bind g) (ok : BlkOk X.N X.env.scope scope own) {Q : D → Cells → Prop}
    (h : WI X P tg iter δ M fun ds Sb M1 => ∃ J : Nat → List D → Cells → Prop, J 0 [] M1 ∧ (∀ i acc M' p, i ≤ ds.length → J i acc M' → Sb ((p, .lst acc) :: M')) ∧
      (∀ i d acc M' p, ds[i]? = some d → J i acc M' → ∃ δ', bind d (wipeD δ (own.map (·.2))) δ' ∧ ∀ B : BK, WE (Bx X scope B) PX0 elt δ' ((p, .lst acc) :: M') fun y M3 => ∃ acc' M4, M3 = (p, .lst acc') :: M4 ∧ acc'.length < sizeLine ∧ J (i + 1) (acc' ++ [y]) M4) ∧
      ∀ acc M' p, J ds.length acc M' → Q (.cel p) ((p, .lst acc) :: M'))
    (hs : ∀ x, foldedSetIterable iter X.env x = pure x := by intro _; rfl) : WE X P (.ListComp elt [⟨tg, iter, [], 0⟩] scope pos) δ M Q := we_ofLC N (lc_lc N T ok h hs)
theorem we_lcM (f : D → D) (N : Nice X) (T : Tg X scope tg own bind g) (ok : BlkOk X.N X.env.scope scope own) {Q : D → Cells → Prop}
    (h : WI X P tg iter δ M fun ds Sb M1 => ds.length ≤ sizeLine ∧ (∀ p acc, Sb ((p, .lst acc) :: M1)) ∧
      (∀ (i : Nat) d acc p, ds[i]? = some d → ∃ δ', bind d (wipeD δ (own.map (·.2))) δ' ∧ ∀ B : BK, WE (Bx X scope B) PX0 elt δ' ((p, .lst acc) :: M1) fun y M3 => M3 = (p, .lst acc) :: M1 ∧ y = f d) ∧
      ∀ p, Q (.cel p) ((p, .lst (ds.map f)) :: M1))
    (hs : ∀ x, foldedSetIterable iter X.env x = pure x := by intro _; rfl) : WE X P (.ListComp elt [⟨tg, iter, [], 0⟩] scope pos) δ M Q := we_ofLC N (lc_lcM f N T ok h hs)
theorem we_lcF (k : D → Bool) (f : D → D) (N : Nice X) (T : Tg X scope tg own bind g) (ok : BlkOk X.N X.env.scope scope own) {Q : D → Cells → Prop}
    (h : WI X P tg iter δ M fun ds Sb M1 => ds.length ≤ sizeLine ∧ (∀ p acc, Sb ((p, .lst acc) :: M1)) ∧
      (∀ (i : Nat) d acc p, ds[i]? = some d → ∃ δ', bind d (wipeD δ (own.map (·.2))) δ' ∧ ∀ B : BK, WT (Bx X scope B) PX0 c δ' ((p, .lst acc) :: M1) fun z M2 => M2 = (p, .lst acc) :: M1 ∧ z = k d ∧ (k d = true → ∀ B : BK, WE (Bx X scope B) PX0 elt δ' ((p, .lst acc) :: M1) fun y M3 => M3 = (p, .lst acc) :: M1 ∧ y = f d)) ∧
      ∀ p, Q (.cel p) ((p, .lst ((ds.filter k).map f)) :: M1))
    (hs : ∀ x, foldedSetIterable iter X.env x = pure x := by intro _; rfl) : WE X P (.ListComp elt [⟨tg, iter, [c], 0⟩] scope pos) δ M Q := we_ofLC N (lc_lcF k f N T ok h hs)
theorem we_extend {Q : D → Cells → Prop} (h : WE X P o δ M fun x M1 => ∃ q, x = .cel q ∧ (∃ (k : Nat) (ds : List D), M1[k]? = some (q, .lst ds)) ∧ WA X P [e] δ M1 fun ys M2 => ∃ (b : Addr) (k : Nat) (ds : List D) (j : Nat) (es : List D), ys = [.cel b] ∧ M2[k]? = some (q, .lst ds) ∧ M2[j]? = some (b, .lst es) ∧ ds.length + es.length ≤ sizeLine ∧ Q .non (M2.set k (q, .lst (ds ++ es))))
    (hbase : attributeBase o "extend" X.env (eval o X.env) = eval o X.env := by rfl)
    (hfew : ((backTo cpos (starEach [e] X.env)).all (fun x => !x.1) && (backToKw cpos (keywordEach [] X.env)).all (fun x => x.1.isSome)
      && decide (([e] : List Expr).length + ([] : List Keyword).length + (if ([] : List Keyword).isEmpty then 0 else 1) < 30)) = true := by rfl)
    (hline : (apos.endLine == cpos.line) = true := by rfl) (hs : starEach [e] X.env = (false, eval e X.env) :: starEach [] X.env := by rfl) (hplain : (backTo cpos (starEach [] X.env)).any (·.1) = false := by rfl) :
    WE X P (.Call (.Attribute o "extend" apos) [e] [] cpos) δ M Q :=
  we_of (pe_bm PySem.F.plainAttrs_list PySem.F.slot_list_extend PySem.F.type_list_extend mt_extend pe_sem pa_sem hbase hfew hline hs hplain) fun σ H F G => h.go G fun v H1 F1 M1 x s1 G1 r1 q1 => by
    obtain ⟨q, rfl, ⟨k0, ds0, hk0⟩, q1⟩ := q1
    cases r1
    obtain ⟨vs0, e0, _⟩ := G1.st.cellAt (List.mem_of_getElem? hk0)
    refine ⟨.inl ⟨rfl, vs0, .of e0⟩, q1.go G1 fun ws H2 F2 M2 ys s2 G2 r2 q2 => ?_⟩
    obtain ⟨b, k, ds, j, es, rfl, hk, hj, hl, hq⟩ := q2
    obtain ⟨w, rfl, rw'⟩ := r2.one
    cases rw'
    obtain ⟨vs, e1, e2, e3⟩ := G2.st.cellAt (List.mem_of_getElem? hk)
    obtain ⟨us, f1, f2, f3⟩ := G2.st.cellAt (List.mem_of_getElem? hj)
    refine ⟨q, b, vs, us, rfl, rfl, e1, f1, by rw [e3.length, f3.length]; exact hl, ?_⟩
    exact ret (G2.st.setCell (c' := .lst (ds ++ es)) hk ⟨vs ++ us, upd_same, e3.append f3⟩) (s1.trans s2) .non hq
end

abbrev TSp := List D → Cells → (D → Cells → Prop) → (Ex → Cells → Prop) → Prop
def spG (K : PySem.W.Frag) (T : TSp) : Sp := fun vs H Q E => ∃ F M ds, Stt K F M [] [] H ∧ Reps K F vs ds ∧
  T ds M (fun d M' => ∀ v F' H', Same F F' → Stt K F' M' [] [] H' → Rep K F' v d → Q v H') (fun x M' => ∀ cls d F' H', Same F F' → Stt K F' M' [] [] H' → ExIs K F' H' cls d x → E cls d H')
def startD (N : List Str) (ds : List D) : Slots := ds.map some ++ List.replicate (N.length - ds.length) none
theorem Stt.start {K : PySem.W.Frag} {F : Hp} {M : Cells} {H : Hp} (S : Stt K F M [] [] H) {N : List Str} {vs : List V} {ds : List D} (r : Reps K F vs ds) : Stt K F M (startD N ds) (L2.start N vs) H := by
  refine S.slots (by simp [startD, L2.start, r.length]) fun i d h => ?_
  unfold startD at h
  by_cases hi : i < ds.length
  · rw [List.getElem?_append_left (by simpa using hi), List.getElem?_map] at h
    cases e : ds[i]? with
    | none => rw [e] at h; cases h
    | some z =>
      rw [e] at h
      obtain ⟨v, h1, h2⟩ := r.get e
      cases h
      refine ⟨v, ?_, h2⟩
      unfold L2.start
      rw [List.getElem?_append_left (by simpa [r.length] using hi), List.getElem?_map, h1]; rfl
  · rw [List.getElem?_append_right (by simpa using hi), List.getElem?_replicate] at h
    split at h <;> cases h
theorem Stt.bare {K : PySem.W.Frag} {F : Hp} {M : Cells} {δ : Slots} {σ : L2.St} {H : Hp} (S : Stt K F M δ σ H) : Stt K F M [] [] H := S.slots rfl fun i d h => by simp at h
/-- the answer's wish may be weakened -/
def Mono (T : TSp) : Prop := ∀ ds M Q Q' E E', (∀ d M', Q d M' → Q' d M') → (∀ x M', E x M' → E' x M') → T ds M Q E → T ds M Q' E'
/-- a def known by its name -/
structure FD (P : Program) (w : World) (K : PySem.W.Frag) (mg : Str → Option Value) (base : Heap) (k : Nat) (x : Str) (n : Nat) (T : TSp) : Prop where
  mono : Mono T
  ex : ∃ f fd ps, mg x = some (.ref f) ∧ PySem.W.keepIn K (.ref f) = true ∧ ps.length = n ∧ Binds K fd ps [] ∧ FnOk P w K mg base (L2.CX P w) k f fd ps (spG K T)
section
variable {P : Program} {w : World} {K : PySem.W.Frag} {mg : Str → Option Value} {base : Heap}
abbrev cxF (P : Program) (w : World) (K : PySem.W.Frag) (mg : Str → Option Value) (base : Heap) (N : List Str) (qual : Str) (st : Stmt) (f : Addr) (cdv : Value) (A : Around) (outer : List Env) (s : Shared) (H : Hp) (E : XK) : Cx := cxOf (L2.CX P w) P w K mg base N qual (defScope st) f cdv A outer s H E
/-- THE RULE for a def -/
theorem fn_ok {x qual : Str} {st : Stmt} {f : Addr} {fd : FuncData} {N ps : List Str} {k n : Nat} {T : TSp} (Fn : L2.Fun K x qual st f fd) (S : FnScope N ps (defScope st)) (hn : ps.length = n) (len : ∀ ds M Q E, T ds M Q E → ds.length = n)
    (body : ∀ (cdv : Value) (A : Around) (outer : List Env) (s : Shared) (H : Hp) (E : XK), Nice (cxF P w K mg base N qual st f cdv A outer s H E) → Room k (cxF P w K mg base N qual st f cdv A outer s H E).A →
      ∀ ds M (Q : D → Cells → Prop) (X' : Ex → Cells → Prop), T ds M Q X' → WB (cxF P w K mg base N qual st f cdv A outer s H E) (fun x _ M' => X' x M') (defBody st) (startD N ds) M { nx := fun _ M' => Q .non M', rt := Q }) :
    FnOk P w K mg base (L2.CX P w) (k + 1) f fd ps (spG K T) := by
  refine Fn.okX S (fun vs H Q E ⟨F, M, ds, S', r, t⟩ => by rw [r.length, len _ _ _ _ t, hn]) fun cdv A outer s H vs Q E hr h => ?_
  obtain ⟨F, M, ds, S0, r, t⟩ := h
  have tk := takes_of (X := cxF P w K mg base N qual st f cdv A outer s H E) (E := E) rfl rfl rfl rfl
  have N0 : Nice (cxF P w K mg base N qual st f cdv A outer s H E) := ⟨rfl, S.nd, passes_of rfl⟩
  refine ⟨_, pss_sem, (body cdv A outer s H E N0 hr ds M _ _ t _ H F ⟨S0.start r, _, tk, fun cls d σ' H' ⟨F', M', δ', x, s', S', hx, q⟩ => q cls d F' H' s' S'.bare hx⟩).mono ⟨?_, ?_, fun _ _ ⟨_, _, _, _, _, q⟩ => q.elim, fun _ _ ⟨_, _, _, _, _, q⟩ => q.elim⟩⟩
  · rintro σ' H' ⟨F', M', δ', s', S', q⟩
    exact q .non F' H' s' S'.bare .non
  · rintro v H' ⟨F', M', δ', σ', d, s', S', r', q⟩
    exact q v F' H' s' S'.bare r'
theorem fd_ok {x qual : Str} {st : Stmt} {f : Addr} {fd : FuncData} {ps : List Str} {k n : Nat} {T : TSp} (Fn : L2.Fun K x qual st f fd) (hm : mg x = some (.ref f)) (hn : ps.length = n) (hb : Binds K fd ps []) (mono : Mono T) (h : FnOk P w K mg base (L2.CX P w) k f fd ps (spG K T)) : FD P w K mg base k x n T := ⟨mono, f, fd, ps, hm, Fn.kp, hn, hb, h⟩
end
section
variable {X : Cx} {P : XP} {F : Hp} {M : Cells} {δ : Slots} {σ : L2.St} {H : Hp} {e a b c o : Expr} {es : List Expr} {pos apos cpos p p2 : Pos}
/-- f(e, ..) -/
theorem we_call {x : Str} {k n : Nat} {T : TSp} {Q : D → Cells → Prop} (c : FD X.prog X.w X.K X.mg X.base k x n T) (hr : Room k X.A) (hg : Gl X x) (h : WA X P (e :: es) δ M fun ds M1 => T ds M1 Q (fun x M' => P x δ M'))
    (hdb : (x == ("__debug__" : Str)) = false := by decide) (he : starEach (e :: es) X.env = (false, eval e X.env) :: starEach es X.env := by rfl) (hpl : (backTo pos (starEach es X.env)).any (·.1) = false := by rfl) : WE X P (.Call (.Name x p) (e :: es) [] pos) δ M Q := by
  obtain ⟨f, fd, ps, hm, hk, hn, hb, Fo⟩ := c.ex
  intro σ H F G
  obtain ⟨W, tw, hw⟩ := G.tk
  intro pins s I
  refine (pe_callS Fo hr hg hm hk hb (E := fun σ cls d H => W cls d σ H) (fun σ => passAt tw σ) pa_sem hdb he hpl).run pins s σ H _ I ?_
  refine h.go G fun vs H1 F1 M1 ds s1 G1 r1 q1 => ⟨F1, M1, ds, G1.st.bare, r1, c.mono _ _ _ _ _ _ (fun d M' q v F' H' s' S' r' => ?_) (fun y M' q cls d F' H' s' S' hx => ?_) q1⟩
  · exact ret (S'.keep G1.st s') (s1.trans s') r' q
  · exact hw cls d σ H' ⟨F', M', δ, y, s1.trans s', S'.keep G1.st s', hx, q⟩
end
end PW
/-! PW6 -/
namespace PW
open PySem L2 PyProof.Rows
theorem iteD {p : Prop} [Decidable p] {A B : Prop} (h1 : p → A) (h2 : ¬ p → B) : if decide p = true then A else B := by
  by_cases h : p
  · rw [if_pos (decide_eq_true h)]; exact h1 h
  · rw [if_neg (by rw [decide_eq_false h]; decide)]; exact h2 h
theorem iteT' {A B : Prop} (h : A) : if true = true then A else B := by rw [if_pos rfl]; exact h
theorem iteF' {A B : Prop} (h : B) : if false = true then A else B := by rw [if_neg (by decide)]; exact h
section
variable {X : Cx} {P : XP} {F : Hp} {M : Cells} {δ : Slots} {σ : L2.St} {H : Hp} {e a b c o : Expr} {es : List Expr} {pos apos cpos p p2 : Pos}
theorem we_globI {x : Str} {i : Int} {Q : D → Cells → Prop} (hg : Gl X x) (hm : ∃ t, X.mg x = some (.int i t)) (h : Q (.int i) M) (hd : (x == ("__debug__" : Str)) = false := by decide) : WE X P (.Name x pos) δ M Q := by
  obtain ⟨t, ht⟩ := hm
  exact we_glob (v := .int i) hg ht ⟨t, rfl⟩ (fun _ _ => .int i) h hd
end
theorem set_get {α : Type} {l : List α} {k : Nat} {x y : α} (h : l[k]? = some y) : (l.set k x)[k]? = some x := List.getElem?_set_self (List.getElem?_eq_some_iff.mp h).1
section
variable {X : Cx} {P : XP} {M : Cells} {δ : Slots} {st : Stmt} {rest : List Stmt} {E : En}
end
theorem room_le {j k : Nat} {A : Around} (h : Room k A) (l : j ≤ k) : Room j A := h.mono l
theorem log2_lt {i : Int} {n : Nat} (h : i.natAbs < 2 ^ n) (hn : 0 < n) : i.natAbs.log2 < n := by
  by_cases e : i.natAbs = 0
  · rw [e]; simpa using hn
  · exact (Nat.log2_lt e).mpr h
theorem intBits_le {i : Int} {n : Nat} (h : i.natAbs < 2 ^ n) : Builtin.Int.intBits i ≤ n := by
  unfold Builtin.Int.intBits
  split
  · omega
  · rename_i h0
    have : i.natAbs ≠ 0 := by intro z; apply h0; simpa using z
    have := (Nat.log2_lt this).mpr h
    omega
end PW
/-! PWS -/
namespace PW
open PySem L2 PyProof.Rows
abbrev newSet (w : World) : Obj := { cls := .type "set", dict := none, data := .set #[] 0 (.fresh 0 0 (!w.params.followText "set-order")) }
section
variable {P : Program} {w : World} {A : Around} {E : Value → Shared → Prop} {s : Shared}
/-- the state with a new set laid -/
abbrev withSet (w : World) (s : Shared) : Shared := { s with heap := s.heap.push (newSet w) }
/-- set(v) is a new set, filled by set.__init__ -/
theorem call_set1 {v : Value} {Q : Value → Shared → Prop} (G : Shared → Prop) (k : ∀ s2, G s2 → Q (.ref s.heap.objs.size) s2)
    (h : ∀ A', A'.handled = A.handled → wpAny (model P w) A' (Builtin.«set.__init__» ⟨[.ref s.heap.objs.size, v], []⟩) (fun f s2 => f = .done (.ret .none) ∧ G s2) E (withSet w s)) :
    wpAny (model P w) A (call (.type "set") [v]) Q E s := by
  refine wpAny_call (codeAny_of_tree ?_)
  show wpAny _ _ (callAny (.type "set") _) _ _ _
  refine wpAny_pure ⟨Code.quiet_builtin _ (by decide +kernel), codeAny_builtin F.entry_type_call ?_⟩
  rw [Around.under_plain (weight_type_call_type "set" [v] []) rfl]
  have facts := F.called_set
  obtain ⟨cc, rest, mro⟩ := facts.mro
  have mk1 := facts.made
  have mk2 := facts.sub
  have mk3 := facts.notType
  have mk4 := facts.canCreate
  have mk5 := F.typeCall_set_1 v
  repeat (any_goals (first | assumption | wp_step))
  refine codeAny_mono (code_set_led1 v (E := E) (Q₁ := fun obj s₁ => obj = .ref s.heap.objs.size ∧ s₁ = withSet w s) ⟨rfl, rfl⟩) fun r s₁ hr => ?_
  match r, hr with
  | .error e, hr => exact hr
  | .ok (.ret obj), hr =>
    obtain ⟨rfl, rfl⟩ := hr
    have ty : Shared.TypeIs (withSet w s) (.ref s.heap.objs.size) "set" := ⟨_, Heap.get?_push_size _ rfl, rfl⟩
    have i1 := facts.init.lookup
    have i2 := facts.init.bind (.ref s.heap.objs.size)
    repeat (any_goals (first | assumption | wp_step))
    refine codeAny_mono (codeAny_call_builtin (R := wants (fun r s₂ => r = .none ∧ G s₂) E) facts.init.plain F.entry_set_init (check_set_init_1 ty ?_)) fun r₂ s₂ hr₂ => ?_
    · exact thn (h A.in1.in1 rfl) fun f s2 z => by
        obtain ⟨rfl, g⟩ := z
        exact ⟨rfl, g⟩
    · match r₂, hr₂ with
      | .error e, hr₂ => exact hr₂
      | .ok (.ret u), hr₂ =>
        obtain ⟨rfl, g⟩ := hr₂
        repeat (any_goals (first | assumption | wp_step))
        exact k _ g
/-- the new set holds the ints ns, all else stands as before -/
def Filled (w : World) (s : Shared) (ns : List Int) (s2 : Shared) : Prop :=
  ∃ (h' : Heap) (tk c : Nat), s2 = { s with heap := h', toks := tk } ∧ SetR w h' s.heap.objs.size (fun j => decide (j ∈ ns)) c ∧ c ≤ ns.length ∧ ∀ b o, s.heap.get? b = some o → h'.get? b = some o
theorem ints_val {items : Array Value} {ns : List Int} (hit : IntsAre items.toList ns) (i : Nat) (v : Value) (h : items[i]? = some v) : ∃ k t, ns[i]? = some k ∧ v = .int k t := by
  rw [← Array.getElem?_toList] at h
  have lt := (List.getElem?_eq_some_iff.mp h).1
  rw [IntsAre.length hit] at lt
  obtain ⟨t, rfl⟩ := IntsAre.int_at hit i v h
  have e := List.getElem?_eq_getElem lt
  refine ⟨_, t, e, ?_⟩
  rw [List.getD_eq_getElem?_getD, e]
  rfl
theorem fill_list {l : Addr} {items : Array Value} {ns : List Int} (hh : A.handled = none) (hl : s.heap.IsList l items) (hit : IntsAre items.toList ns) (hb : ns.length + 1 < scanBound) :
    wpAny (model P w) A (Builtin.«set.__init__» ⟨[.ref s.heap.objs.size, .ref l], []⟩) (fun f s2 => f = .done (.ret .none) ∧ Filled w s ns s2) E (withSet w s) := by
  have size_eq : items.size = ns.length := by rw [← Array.length_toList]; exact IntsAre.length hit
  -- the set is at S, the walk's own object at S + 1
  have there : (withSet w s).heap.IsList l items := hl.push _
  have l_old : l < s.heap.objs.size := by
    obtain ⟨o, e, _⟩ := hl
    exact Heap.lt_size e
  have grown : (withSet w s).heap.objs.size = s.heap.objs.size + 1 := Heap.size_push ..
  have l_walk : l ≠ (withSet w s).heap.objs.size := by rw [grown]; exact Nat.ne_of_lt (Nat.lt_succ_of_lt l_old)
  have set_at : (withSet w s).heap.get? s.heap.objs.size = some (newSet w) := Heap.get?_push_size _ rfl
  have cl : (Value.type "list" == Value.type "dict") = false := by decide
  have f1 := F.sub_list_set
  have f2 := F.sub_list_frozenset
  have lk : ∃ o, (withSet w s).heap.get? l = some o ∧ o.cls = .type "list" := by
    obtain ⟨o, e1, e2, _⟩ := there
    exact ⟨o, e1, e2⟩
  obtain ⟨⟨oc, od, odt, os⟩, lk1, lk2⟩ := lk
  simp only at lk2
  subst lk2
  unfold Builtin.«set.__init__» noKeywords Builtin.Frozenset.updateFrom
  generalize walker : pyIter = iter
  wp_walk
  subst walker
  refine wpAny_pyIter_list there ?_
  refine wpAny_bind (wpAny_runValue ?_)
  have nin : s.heap.objs.size ∉ [(withSet w s).heap.objs.size, l] := by
    rw [List.mem_cons, List.mem_singleton, grown]
    exact fun z => z.elim (Nat.ne_of_lt (Nat.lt_succ_self _)) fun z => Nat.ne_of_lt l_old z.symm
  refine set_update_ints (Walks.list (by simpa using hh) _ l l_walk items).toS s.heap.objs.size nin ns size_eq hb (ints_val hit) items.size 0 _ (Nat.sub_zero _) (Nat.zero_le _)
    ⟨⟨_, Heap.get?_push_size _ rfl, rfl, rfl⟩, there.push _⟩ ⟨0, Nat.le_refl 0, setR_new_at (Heap.get?_push_of_some _ set_at)⟩ ?_
  rintro ⟨h', gens', drawn', tk', os'⟩ c moved count held
  obtain ⟨keeps, e1, e2, e3, _⟩ := moved
  cases e1
  cases e2
  cases e3
  refine wpAny_pure (wpAny_pure ⟨rfl, h', tk', c, rfl, held, by omega, fun b o e => ?_⟩)
  have lt := Heap.lt_size e
  refine keeps b o ?_ (Heap.get?_push_of_some _ (Heap.get?_push_of_some _ e))
  rw [List.mem_cons, List.mem_singleton, grown]
  exact fun z => z.elim (Nat.ne_of_lt lt) (Nat.ne_of_lt (Nat.lt_succ_of_lt lt))
theorem set_lst {l : Addr} {items : Array Value} (ns : List Int) {Q : Value → Shared → Prop} (hh : A.handled = none) (hl : s.heap.IsList l items) (hit : IntsAre items.toList ns) (hb : ns.length + 1 < scanBound)
    (h : ∀ (h' : Heap) (tk c : Nat), SetR w h' s.heap.objs.size (fun j => decide (j ∈ ns)) c → c ≤ ns.length → (∀ b o, s.heap.get? b = some o → h'.get? b = some o) → Q (.ref s.heap.objs.size) { s with heap := h', toks := tk }) :
    wpAny (model P w) A (call (.type "set") [.ref l]) Q E s :=
  call_set1 (Filled w s ns) (fun s2 ⟨h', tk, c, e, r, n, k⟩ => by rw [e]; exact h h' tk c r n k) fun A' hA => fill_list (hA.trans hh) hl hit hb
end
end PW
namespace PW
open PySem L2 PyProof.Rows
section
variable {X : Cx} {P : XP} {F : Hp} {M : Cells} {δ : Slots} {σ : L2.St} {H : Hp} {e a b c o : Expr} {es : List Expr} {pos apos cpos p p2 q : Pos}
def rSetL (K : PySem.W.Frag) (w : World) : List V → Hp → VK → Prop := fun xs H Q => ∃ (l : Addr) (ns : List Int), xs = [.ref l] ∧ SqL K H l (ns.map V.int) ∧ ns.length ≤ 4000 ∧ ∀ p n, H p = none → n ≤ ns.length → Q (.ref p) (upd H p (SetO w p (fun j => decide (j ∈ ns)) n))
theorem cr_setL (hc : X.calm = true) : CallR X (.type "set") (rSetL X.K X.w) := by
  intro pins s σ H xs us Q I r h
  obtain ⟨l, ns, rfl, hl, hn, q⟩ := h
  rw [Vals.ref1 r]
  obtain ⟨its, rv, pl, hz⟩ := I.list hl
  have hn' : H s.heap.objs.size = none := I.hok.fresh (Nat.le_refl _)
  refine set_lst (P := X.prog) (w := X.w) ns (I.ok.hd hc) pl.isList (by simpa using rv.ints) (by unfold scanBound; omega) fun h' tk c R hc' k => ?_
  exact ⟨.ref s.heap.objs.size, upd H s.heap.objs.size (SetO X.w s.heap.objs.size (fun j => decide (j ∈ ns)) c), I.laid (t' := tk) k (Nat.le_refl _) (setO_new R), rfl, q _ _ hn' hc'⟩
end
end PW
/-! PW7 -/
namespace PW
open PySem L2 PyProof.Rows
section
variable {X : Cx} {P : XP} {F : Hp} {M : Cells} {δ : Slots} {σ : L2.St} {H : Hp} {e a b c o : Expr} {es : List Expr} {pos apos cpos p p2 q : Pos} {kws : List Keyword}
theorem we_bits {Q : D → Cells → Prop} (h : WE X P o δ M fun d M1 => ∃ i, d = .int i ∧ Q (.int (Builtin.Int.intBits i : Nat)) M1)
    (hbase : attributeBase o "bit_length" X.env (eval o X.env) = eval o X.env := by rfl) (hline : (apos.endLine == pos.line) = true := by rfl) : WE X P (.Call (.Attribute o "bit_length" apos) [] [] pos) δ M Q :=
  we_of (pe_bits pe_sem hbase hline) fun σ H F G => h.go G fun v H1 F1 M1 d s1 G1 r1 q1 => by
    obtain ⟨i, rfl, q⟩ := q1
    cases r1
    exact ⟨i, rfl, ret G1.st s1 (.int _) q⟩
def RIx : RD2 := fun d e M Q => (∃ ds i z, LV M d ds ∧ e = .int i ∧ atI ds i = some z ∧ Q z M) ∨ (∃ ds i z, d = .tup ds ∧ e = .int i ∧ atI ds i = some z ∧ Q z M) ∨ (∃ z i c, d = .str z ∧ e = .int i ∧ z.length ≤ sizeLine ∧ atI z.cps.toList i = some c ∧ Q (.str ⟨#[c]⟩) M)
theorem ixR_or {r r' : R2} (h : IxR X r) (h' : IxR X r') : IxR X (fun x y H Q => r x y H Q ∨ r' x y H Q) := h.or h'
theorem we_ix {Q : D → Cells → Prop} (h : WE X P a δ M fun d M1 => WE X P b δ M1 fun e M2 => RIx d e M2 Q) (hs : PlainIx b) : WE X P (.Subscript a b pos) δ M Q :=
  we_of (pe_ix (ixR_or ix_list (ixR_or ix_tup ix_str)) pe_sem pe_sem hs) fun σ H F G => bind2 (fun _ _ z => z) (lift_ixL.or (lift_ixT.or lift_ixS)) h G
def RSl (d : D) (l u : Option Int) (M : Cells) (Q : D → Cells → Prop) : Prop := (∃ ds, LV M d ds ∧ Q (.lst (cutD ds l u)) M) ∨ ∃ z, d = .str z ∧ z.length ≤ sizeLine ∧ Q (.str (cutS z l u)) M
theorem we_sl {lo hi : Option Expr} {Q : D → Cells → Prop} (h : WE X P e δ M fun d M1 => WO X P lo δ M1 fun l M2 => WO X P hi δ M2 fun u M3 => RSl d l u M3 Q) : WE X P (.Subscript e (.Slice lo hi none p2) pos) δ M Q :=
  we_of (pe_slice (SlR.or sl_list sl_str) pe_sem po_sem po_sem) fun σ H F G => h.go G fun v H1 F1 M1 d s1 G1 r1 q1 => (q1 σ H1 F1 G1).mono fun l H2 ⟨F2, M2, s2, S2, q2⟩ => (q2 σ H2 F2 ⟨S2, G1.tk.up s2⟩).mono fun u H3 ⟨F3, M3, s3, S3, q3⟩ => by
    rcases q3 with ⟨ds, h1, q3⟩ | ⟨z, rfl, hz, q3⟩
    · obtain ⟨a, xs, rfl, e1, e2⟩ := S3.readL (r1.up (s2.trans s3)) h1
      refine .inl ⟨a, xs, rfl, e1, fun p hp => ?_⟩
      obtain ⟨S', s'⟩ := S3.froz (o := .lst (cutV xs l u)) hp
      exact ret S' (((s1.trans s2).trans s3).trans s') (.lst (.of upd_same) ((reps_cut e2 l u).up s')) q3
    · cases r1
      exact .inr ⟨z, rfl, hz, ret S3 ((s1.trans s2).trans s3) (.str _) q3⟩
theorem we_int2 {Q : D → Cells → Prop} (hg : Gl X "int") (hm : X.mg "int" = none) (h : WA X P [e] δ M fun ds M1 => (∃ i, ds = [.int i] ∧ Q (.int i) M1) ∨ (∃ k, ds = [.bl k] ∧ Q (.int (if k then 1 else 0)) M1) ∨ ∃ z n, ds = [.str z] ∧ PySem.intText? z = some n ∧ z.length ≤ 640 ∧ Q (.int n) M1) (he : starEach [e] X.env = (false, eval e X.env) :: starEach [] X.env := by rfl) (hpl : (backTo pos (starEach [] X.env)).any (·.1) = false := by rfl) : WE X P (.Call (.Name "int" p) [e] [] pos) δ M Q :=
  we_callTy (R := fun ds M1 Q => (∃ i, ds = [.int i] ∧ Q (.int i) M1) ∨ (∃ k, ds = [.bl k] ∧ Q (.int (if k then 1 else 0)) M1) ∨ ∃ z n, ds = [.str z] ∧ PySem.intText? z = some n ∧ z.length ≤ 640 ∧ Q (.int n) M1) (call_int1.or call_int_str) (fun k s S r h => by
    rcases h with ⟨i, rfl, q⟩ | ⟨i, rfl, q⟩ | ⟨z, n, rfl, h1, h2, q⟩
    · obtain ⟨v, rfl, r1⟩ := r.one
      cases r1
      exact .inl (.inl ⟨i, rfl, k _ _ (ret S s (.int _) q)⟩)
    · obtain ⟨v, rfl, r1⟩ := r.one
      cases r1
      exact .inl (.inr ⟨i, rfl, k _ _ (ret S s (.int _) q)⟩)
    · obtain ⟨v, rfl, r1⟩ := r.one
      cases r1
      exact .inr ⟨z, n, rfl, h1, h2, k _ _ (ret S s (.int _) q)⟩) hg hm (by decide +kernel) h (by decide) (by decide) he hpl
def REq (neg : Bool) : RD2 := fun d e M Q => RScal neg d e M Q ∨ ∃ p q, PV M d p ∧ PV M e q ∧ SeqAt.shaped p = true ∧ SeqAt.shaped q = true ∧ Q (.bl (if neg then !PyData.eqv p q else PyData.eqv p q)) M
theorem we_eq {Q : D → Cells → Prop} (hu : X.A.units + 64 < cLine) (h : WE X P a δ M fun d M1 => WE X P b δ M1 fun e M2 => REq false d e M2 Q) : WE X P (.Compare a [.Eq] [b] pos) δ M Q := we_cmp (op_eq.or (op_eqD hu)) (lift_eqS.or lift_eqD) (nomark _) h
theorem we_ne {Q : D → Cells → Prop} (hu : X.A.units + 64 < cLine) (h : WE X P a δ M fun d M1 => WE X P b δ M1 fun e M2 => REq true d e M2 Q) : WE X P (.Compare a [.NotEq] [b] pos) δ M Q := we_cmp (op_ne.or (op_neD hu)) (lift_neS.or lift_neD) (nomark _) h
theorem wt_eq {Q : Bool → Cells → Prop} (hu : X.A.units + 64 < cLine) (h : WE X P a δ M fun d M1 => WE X P b δ M1 fun e M2 => REq false d e M2 (onB Q)) : WT X P (.Compare a [.Eq] [b] pos) δ M Q := wt_cmp (op_eq.or (op_eqD hu)) (lift_eqS.or lift_eqD) (nomark _) h
theorem wt_ne {Q : Bool → Cells → Prop} (hu : X.A.units + 64 < cLine) (h : WE X P a δ M fun d M1 => WE X P b δ M1 fun e M2 => REq true d e M2 (onB Q)) : WT X P (.Compare a [.NotEq] [b] pos) δ M Q := wt_cmp (op_ne.or (op_neD hu)) (lift_neS.or lift_neD) (nomark _) h
end
section
variable {P : Program} {w : World} {K : PySem.W.Frag} {mg : Str → Option Value} {base : Heap}
end
end PW
/-! PW8 -/
namespace PW
open PySem L2 PyProof.Rows
section
variable {M : Cells} {Q : D → Cells → Prop} {d : D} {ds : List D} {z : D}
theorem iteP {b : Bool} {A B : Prop} (hb : b = true) (h : A) : if b = true then A else B := by rw [if_pos hb]; exact h
theorem iteQ {b : Bool} {A B : Prop} (hb : b = false) (h : B) : if b = true then A else B := by rw [if_neg (by rw [hb]; decide)]; exact h
theorem req_i {i j : Int} (h : Q (.bl (decide (i = j))) M) : REq false (.int i) (.int j) M Q := .inl ⟨.int i, .int j, rfl, rfl, rfl, by
  have e : decide (V.int i = V.int j) = decide (i = j) := by simp
  rw [if_neg (by decide), e]; exact h⟩
theorem req_iN {i j : Int} (h : Q (.bl (!decide (i = j))) M) : REq true (.int i) (.int j) M Q := .inl ⟨.int i, .int j, rfl, rfl, rfl, by
  have e : decide (V.int i = V.int j) = decide (i = j) := by simp
  rw [if_pos rfl, e]; exact h⟩
theorem req_b {i j : Bool} (h : Q (.bl (decide (i = j))) M) : REq false (.bl i) (.bl j) M Q := .inl ⟨.bl i, .bl j, rfl, rfl, rfl, by
  have e : decide (V.bl i = V.bl j) = decide (i = j) := by simp
  rw [if_neg (by decide), e]; exact h⟩
theorem req_bN {i j : Bool} (h : Q (.bl (!decide (i = j))) M) : REq true (.bl i) (.bl j) M Q := .inl ⟨.bl i, .bl j, rfl, rfl, rfl, by
  have e : decide (V.bl i = V.bl j) = decide (i = j) := by simp
  rw [if_pos rfl, e]; exact h⟩
theorem req_s {i j : Str} (h : Q (.bl (decide (i = j))) M) : REq false (.str i) (.str j) M Q := .inl ⟨.str i, .str j, rfl, rfl, rfl, by
  have e : decide (V.str i = V.str j) = decide (i = j) := by simp
  rw [if_neg (by decide), e]; exact h⟩
theorem req_n (h : Q (.bl true) M) : REq false .non .non M Q := .inl ⟨.non, .non, rfl, rfl, rfl, by
  rw [if_neg (by decide), decide_eq_true rfl]; exact h⟩
theorem req_d {d e : D} {p q : PyData} (h1 : PV M d p) (h2 : PV M e q) (s1 : SeqAt.shaped p = true) (s2 : SeqAt.shaped q = true) (h : Q (.bl (PyData.eqv p q)) M) : REq false d e M Q := .inr ⟨p, q, h1, h2, s1, s2, by rw [if_neg (by decide)]; exact h⟩
theorem req_dN {d e : D} {p q : PyData} (h1 : PV M d p) (h2 : PV M e q) (s1 : SeqAt.shaped p = true) (s2 : SeqAt.shaped q = true) (h : Q (.bl (!PyData.eqv p q)) M) : REq true d e M Q := .inr ⟨p, q, h1, h2, s1, s2, by rw [if_pos rfl]; exact h⟩
theorem isi1 {t n : String} {b : Bool} (ht : TyA M d t) (hn : n ∈ ["bool", "int", "str", "tuple", "list", "dict"]) (hb : isT t n = b) (q : Q (.bl b) M) : RIsi [d, .raw (.ty n)] M Q ∨ RIsiT [d, .raw (.ty n)] M Q := .inl ⟨d, t, n, rfl, ht, hn, by rw [hb]; exact q⟩
theorem isi2 {t n m : String} {b : Bool} (ht : TyA M d t) (hn : n ∈ ["bool", "int", "str", "tuple", "list", "dict"]) (hm : m ∈ ["bool", "int", "str", "tuple", "list", "dict"]) (hb : (isT t n || isT t m) = b) (q : Q (.bl b) M) :
    RIsi [d, .tup [.raw (.ty n), .raw (.ty m)]] M Q ∨ RIsiT [d, .tup [.raw (.ty n), .raw (.ty m)]] M Q := .inr ⟨d, t, n, m, rfl, ht, hn, hm, by rw [hb]; exact q⟩
theorem nr_non {A : Prop} (h : A) : (∀ v, D.non ≠ D.raw v) ∧ A := ⟨fun v e => (by cases e), h⟩
theorem nr_tup {A : Prop} (h : A) : (∀ v, D.tup ds ≠ D.raw v) ∧ A := ⟨fun v e => (by cases e), h⟩
def CL (M : Cells) (b : Addr) (R : List D → (List D → Cells) → Prop) : Prop := ∃ (k : Nat) (ds : List D), M[k]? = some (b, .lst ds) ∧ R ds (fun ds' => M.set k (b, .lst ds'))
theorem cl_k {b : Addr} {R : List D → (List D → Cells) → Prop} {k : Nat} {ds : List D} (h : M[k]? = some (b, .lst ds)) (r : R ds (fun ds' => M.set k (b, .lst ds'))) : CL M b R := ⟨k, ds, h, r⟩
theorem cl_set {b : Addr} {R : List D → (List D → Cells) → Prop} {k : Nat} {ds : List D} {c : Addr × Cell} (h : M[k]? = some c) (r : R ds (fun ds' => M.set k (b, .lst ds'))) : CL (M.set k (b, .lst ds)) b R := ⟨k, ds, set_get h, by
  have e : (fun ds' => (M.set k (b, Cell.lst ds)).set k (b, Cell.lst ds')) = fun ds' => M.set k (b, Cell.lst ds') := by funext ds'; exact List.set_set ..
  rw [e]; exact r⟩
theorem cl_0 {b : Addr} {R : List D → (List D → Cells) → Prop} {ds : List D} (r : R ds (fun ds' => (b, .lst ds') :: M)) : CL ((b, .lst ds) :: M) b R := ⟨0, ds, rfl, r⟩
theorem cl_skip {b : Addr} {R : List D → (List D → Cells) → Prop} {p : Addr × Cell} (r : CL M b fun ds f => R ds (fun ds' => p :: f ds')) : CL (p :: M) b R := let ⟨k, ds, h, r⟩ := r; ⟨k + 1, ds, h, r⟩
theorem rix_cl {b : Addr} {i : Int} (h : CL M b fun ds _ => ∃ z, atI ds i = some z ∧ Q z M) : RIx (.cel b) (.int i) M Q := let ⟨k, ds, h1, z, h2, h3⟩ := h; .inl ⟨ds, i, z, .c k h1, rfl, h2, h3⟩
theorem rix_l {i : Int} (h : ∃ z, atI ds i = some z ∧ Q z M) : RIx (.lst ds) (.int i) M Q := let ⟨z, h2, h3⟩ := h; .inl ⟨ds, i, z, .l, rfl, h2, h3⟩
theorem rix_t {i : Int} (h : ∃ z, atI ds i = some z ∧ Q z M) : RIx (.tup ds) (.int i) M Q := let ⟨z, h2, h3⟩ := h; .inr (.inl ⟨ds, i, z, rfl, rfl, h2, h3⟩)
theorem wgs_cl {b : Addr} {i : Int} {R : Cells → Prop} (h : CL M b fun ds f => ∃ j, ixN ds.length i = some j ∧ R (f (ds.set j d))) :
    ∃ k q ds z j, D.cel b = .cel q ∧ M[k]? = some (q, .lst ds) ∧ D.int i = .int z ∧ ixN ds.length z = some j ∧ R (M.set k (q, .lst (ds.set j d))) := let ⟨k, ds, h1, j, h2, h3⟩ := h; ⟨k, b, ds, i, j, rfl, h1, rfl, h2, h3⟩
theorem app0_cl {b : Addr} {R : Addr → Prop} (h : CL M b fun _ _ => True) (r : R b) : ∃ q, D.cel b = .cel q ∧ (∃ (k : Nat) (ds : List D), M[k]? = some (q, .lst ds)) ∧ R q := let ⟨k, ds, h1, _⟩ := h; ⟨b, rfl, ⟨k, ds, h1⟩, r⟩
theorem LV.cons {p : Addr × Cell} (h : LV M d ds) : LV (p :: M) d ds := h.elim .inl fun ⟨k, a, h1, h2⟩ => .inr ⟨k + 1, a, h1, h2⟩
theorem LV.ty (h : LV M d ds) : TyA M d "list" := by
  rcases h with rfl | ⟨k, a, rfl, h⟩
  · exact (rfl : "list" = "list")
  · show "list" = "list" ∧ ∃ (k : Nat) (ds : List D), M[k]? = some (a, .lst ds)
    exact ⟨rfl, k, ds, h⟩
def Sq (M : Cells) (d : D) (t : String) (ds : List D) : Prop := (t = "list" ∧ LV M d ds) ∨ (t = "tuple" ∧ d = .tup ds)
theorem Sq.cons {t : String} {p : Addr × Cell} (h : Sq M d t ds) : Sq (p :: M) d t ds := h.elim (fun h => .inl ⟨h.1, h.2.cons⟩) .inr
theorem Sq.ty {t : String} (h : Sq M d t ds) : TyA M d t := by
  rcases h with ⟨rfl, h⟩ | ⟨rfl, rfl⟩
  · exact h.ty
  · exact (rfl : "tuple" = "tuple")
theorem Sq.len {t : String} (h : Sq M d t ds) (q : Q (.int ds.length) M) : RLen [d] M Q := by
  rcases h with ⟨rfl, h⟩ | ⟨rfl, rfl⟩
  · exact .inl ⟨d, ds, rfl, h, q⟩
  · exact .inr (.inl ⟨ds, rfl, q⟩)
theorem Sq.ix {t : String} {i : Int} (h : Sq M d t ds) (hz : atI ds i = some z) (q : Q z M) : RIx d (.int i) M Q := by
  rcases h with ⟨rfl, h⟩ | ⟨rfl, rfl⟩
  · exact .inl ⟨ds, i, z, h, rfl, hz, q⟩
  · exact .inr (.inl ⟨ds, i, z, rfl, rfl, hz, q⟩)
/-- alike, as the laws' own test of it goes -/
inductive Alk (M : Cells) : Nat → D → D → Prop
  | non {n : Nat} : Alk M n .non .non
  | bl {n : Nat} (b : Bool) : Alk M n (.bl b) (.bl b)
  | int {n : Nat} (i : Int) : Alk M n (.int i) (.int i)
  | str {n : Nat} (x : Str) : Alk M n (.str x) (.str x)
  | seq {n : Nat} {d e : D} {t : String} {ds es : List D} (h1 : Sq M d t ds) (h2 : Sq M e t es) (hl : ds.length = es.length) (hz : es.length ≤ 1000000) (h : ∀ (i : Nat) (a b : D), ds[i]? = some a → es[i]? = some b → Alk M n a b) : Alk M (n + 1) d e
theorem Alk.cons {p : Addr × Cell} {n : Nat} {d e : D} (h : Alk M n d e) : Alk (p :: M) n d e := by
  induction h with
  | non => exact .non
  | bl b => exact .bl b
  | int b => exact .int b
  | str b => exact .str b
  | seq h1 h2 hl hz h ih => exact .seq h1.cons h2.cons hl hz fun i a b ha hb => ih i a b ha hb
def TAlk (n : Nat) : TSp := fun ds M Q _ => ∃ d e, ds = [d, e] ∧ Alk M n d e ∧ Q (.bl true) M
theorem TAlk_mono (n : Nat) : Mono (TAlk n) := fun ds M Q Q' E E' h _ ⟨d, e, h1, h2, h3⟩ => ⟨d, e, h1, h2, h _ _ h3⟩
theorem TAlk_len (n : Nat) : ∀ ds M Q E, TAlk n ds M Q E → ds.length = 2 := fun ds M Q E h => by obtain ⟨_, _, rfl, _⟩ := h; rfl
end
section
variable {X : Cx} {P : XP} {F : Hp} {M : Cells} {δ : Slots} {σ : L2.St} {H : Hp} {e a b c o : Expr} {es : List Expr} {pos apos cpos p p2 q : Pos}
end
end PW
/-! PW9 -/
namespace PW
open PySem L2 PyProof.Rows
section
variable {X : Cx} {P : XP} {F : Hp} {M : Cells} {δ : Slots} {σ : L2.St} {H : Hp} {e a b c o : Expr} {es : List Expr} {pos apos cpos p p1 p2 q : Pos} {E : En}
/-- an expression that makes an exception, read at the layer -/
def WM (X : Cx) (P : XP) (e : Expr) (δ : Slots) (M : Cells) (R : Ex → Cells → Prop) : Prop :=
  ∃ t : L2.St → Hp → XK → Prop, PMk X e t ∧ ∀ σ H F, Go X P F M δ σ H → ∀ Q : XK, (∀ cls d H' F' M' x, Same F F' → Stt X.K F' M' δ σ H' → ExIs X.K F' H' cls d x → R x M' → Q cls d H') → t σ H Q
theorem ws_raise (N : Nice X) (h : WM X P e δ M fun x M' => P x δ M') : WS X P (.Raise (some e) none pos) δ M E := by
  obtain ⟨t, mk, h⟩ := h
  intro σ H F G
  obtain ⟨W, tw, hw⟩ := G.tk
  intro pins s I
  refine (ps_raise N.calm tw mk).run pins s σ H _ I (h σ H F G _ fun cls d H' F' M' x s' S' hx q => ?_)
  exact hw cls d σ H' ⟨F', M', δ, x, s', S', hx, q⟩
/-- C('text'), C an own class without an __init__ of its own -/
theorem wm_own {x m : Str} {j : Nat} {C : Addr} {bmB : List Value} {B newId initId : String} {R : Ex → Cells → Prop} (Fb : ExcBaseFacts B newId initId bmB) (hq : PySem.W.excIn X.K C bmB newId = true) (gC : X.mg x = some (.ref C)) (kC : PySem.W.keepIn X.K (.ref C) = true)
    (r : Raises X (.ref C)) (hg : Gl X x) (h : R ⟨C, []⟩ M) (hdb : (x == ("__debug__" : Str)) = false := by decide) : WM X P (.Call (.Name x p) [.Constant (.str m) j p2] [] pos) δ M R :=
  ⟨_, pmk_own Fb hq gC kC r hg hdb, fun σ H F G Q k => k _ _ _ F M ⟨C, []⟩ (Same.refl _) G.st ⟨rfl, .inl ⟨rfl, rfl⟩⟩ h⟩
/-- BASE.__init__(self, ..), BASE an own class that has none and so its base's, which is ValueError's -/
theorem pe_base_init {C0 : Addr} {x : Str} {mc : Value} {pl : Sem Bool} {ta : TA} (hg : Gl X x) (hm : X.mg x = some (.ref C0)) (ga : PySem.W.specialIn X.K (.ref C0) "__getattribute__" = some (some (.builtin "type.__getattribute__")))
    (rd : PySem.W.readsIn X.K C0 mc = true) (vV : PySem.W.findCls X.K (.ref C0) mc "__init__" = some (.val (.builtin "ValueError.__init__"))) (ha : PA X (e :: es) ta)
    (hc : eval (.Call (.Attribute (.Name x p1) "__init__" p2) (e :: es) [] pos) X.env = (do
      let ov ← eval (.Name x p1) X.env
      standAt p2.atName
      let (f, first) ← holding [ov] (getMethod ov "__init__" pl)
      callWith pos f first (backTo pos (starEach (e :: es) X.env)) (backToKw pos (keywordEach [] X.env))) := by rfl)
    (he : starEach (e :: es) X.env = (false, eval e X.env) :: starEach es X.env := by rfl) (hpl : (backTo pos (starEach es X.env)).any (·.1) = false := by rfl) (hdb : (x == ("__debug__" : Str)) = false := by decide) :
    PE X (.Call (.Attribute (.Name x p1) "__init__" p2) (e :: es) [] pos) (tVeI X.K ta) := by
  constructor
  intro pins s σ H Q I h
  refine PySem.W.methodCall_KW (ld_glob I hg hm ?_ hdb) hc
  refine PySem.W.method_cls I.kIn ga (PySem.W.cls_value I.kIn rd vV (by decide +kernel) ?_)
  show wpAny _ _ (callWith pos (Value.builtin "ValueError.__init__") [] (backTo pos (starEach (e :: es) X.env)) []) _ _ _
  refine PyProof.Rows.callWith_method1 (thn (ha.run pos pins _ σ H _ (I.tok _) h) fun us s1 hus => ?_) he hpl
  obtain ⟨vs, H1, I1, rv, a, C, ws, ev, hl, T, ea, hQ⟩ := hus
  subst ev
  match us, rv with
  | u0 :: ur, .cons ra rw' =>
    obtain rfl : u0 = Value.ref a := ra
    have fits : ur.length ≤ sizeLine := by rw [← Paired.length rw', sizeLine_eq]; omega
    exact oinit_ok T I1 ea fits fun s' J => ⟨.non, H1, J, rfl, hQ⟩
theorem we_lele {Q : D → Cells → Prop} (h : WE X P a δ M fun d M1 => WE X P b δ M1 fun e M2 => ∃ i j, d = .int i ∧ e = .int j ∧ if decide (i ≤ j) = true then WE X P c δ M2 fun f M3 => ∃ l, f = .int l ∧ Q (.bl (decide (j ≤ l))) M3 else Q (.bl false) M2)
    (hm : lastMarks [.LtE, .LtE] [b, c] = false := by with_unfolding_all rfl) : WE X P (.Compare a [.LtE, .LtE] [b, c] pos) δ M Q :=
  we_chain op_le op_le lift_B0 lift_B0 (h.imp fun d M1 q => q.imp fun e M2 ⟨i, j, h1, h2, q⟩ => ⟨i, j, h1, h2, _, rfl, by
    split at q
    · rename_i hc; rw [if_pos hc]; exact q.imp fun f M3 ⟨l, h3, q⟩ => ⟨j, l, h2, h3, q⟩
    · rename_i hc; rw [if_neg hc]; exact q⟩) hm
end
end PW
/-! PWGd -/
namespace PW
open PySem L2 PyProof.Rows
section
variable {X : Cx} {P : XP} {F : Hp} {M : Cells} {δ : Slots} {σ : L2.St} {H : Hp} {e a b c o : Expr} {es : List Expr} {ks : List Keyword} {pos apos cpos p p1 p2 q : Pos} {E : En} {Q : D → Cells → Prop}
theorem gENm {x : Str} (h : WE X P (.Name x p) δ M Q) : WE X P (.Name x p) δ M Q := h
theorem gECn {k : Const} {j} (h : WE X P (.Constant k j p) δ M Q) : WE X P (.Constant k j p) δ M Q := h
theorem gECl (h : WE X P (.Call a es ks p) δ M Q) : WE X P (.Call a es ks p) δ M Q := h
theorem gECm {ops : List CmpOp} (h : WE X P (.Compare a ops es p) δ M Q) : WE X P (.Compare a ops es p) δ M Q := h
theorem gEBi {op : Operator} (h : WE X P (.BinOp a op b p) δ M Q) : WE X P (.BinOp a op b p) δ M Q := h
theorem gESu {j} (h : WE X P (.Subscript a b j) δ M Q) : WE X P (.Subscript a b j) δ M Q := h
theorem gEBo {op : BoolOp} (h : WE X P (.BoolOp op es p) δ M Q) : WE X P (.BoolOp op es p) δ M Q := h
theorem gTCm {ops : List CmpOp} {Q : Bool → Cells → Prop} (h : WT X P (.Compare a ops es p) δ M Q) : WT X P (.Compare a ops es p) δ M Q := h
/-- the name x, a call of x, x set, x a target -/
theorem gN (x : Str) (h : WE X P (.Name x p) δ M Q) : WE X P (.Name x p) δ M Q := h
theorem gC (x : Str) (h : WE X P (.Call (.Name x p) es ks q) δ M Q) : WE X P (.Call (.Name x p) es ks q) δ M Q := h
theorem gCK (x : Str) (h : WE X P (.Call (.Name x p) es [] q) δ M Q) : WE X P (.Call (.Name x p) es [] q) δ M Q := h
theorem gS (x : Str) (h : WS X P (.Assign [.Name x p] e q) δ M E) : WS X P (.Assign [.Name x p] e q) δ M E := h
theorem gG (x : Str) {d : D} {Q : Slots → Cells → Prop} (h : WG X P (.Name x p) d δ M Q) : WG X P (.Name x p) d δ M Q := h
theorem we_nm (i : Nat) {x : Str} {d : D} (hN : X.N[i]? = some x) (hd : δ[i]? = some (some d)) (h : Q d M) (hv : Vis X.env.scope x := by first | exact .inl rfl | exact .inr (.inl rfl) | exact .inr (.inr rfl)) (h1 : (x == ("__debug__" : Str)) = false := by decide) (h2 : (x == ("__classdict__" : Str)) = false := by decide) : WE X P (.Name x pos) δ M Q := we_name hN hv hd h h1 h2
theorem ws_st (i : Nat) {x : Str} {pos' : Pos} (h : WE X P e δ M fun d M' => E.nx (δ.set i (some d)) M') (N : Nice X := by assumption) (hi : X.N[i]? = some x := by exact rfl) (hx : Loc X.env.scope x := by first | exact .inl rfl | exact .inr rfl) (hs : swapsWith e (some (.Name x pos')) pos.line X.env = pure false := by rfl) (hf : X.fn x = true ∨ X.env.scope.names.lookup x = some .local := by first | exact .inl rfl | exact .inr rfl | assumption) : WS X P (.Assign [.Name x pos'] e pos) δ M E := ws_set N hi hx h hs hf
theorem wg_nm (i : Nat) {x : Str} {d : D} {Q : Slots → Cells → Prop} (h : Q (δ.set i (some d)) M) (N : Nice X := by assumption) (hi : X.N[i]? = some x := by exact rfl) (hx : Loc X.env.scope x := by first | exact .inl rfl | exact .inr rfl) (hf : X.fn x = true ∨ X.env.scope.names.lookup x = some .local := by first | exact .inl rfl | exact .inr rfl | assumption) : WG X P (.Name x pos) d δ M Q := wg_name N hi hx h hf
theorem we_cl (x : Str) {k n : Nat} {T : TSp} (h : WA X P (e :: es) δ M fun ds M1 => T ds M1 Q (fun x M' => P x δ M')) (c : FD X.prog X.w X.K X.mg X.base k x n T := by assumption) (hr : Room k X.A := by first | assumption | exact room_le (by assumption) (by decide)) (hg : Gl X x := by exact rfl)
    (hdb : (x == ("__debug__" : Str)) = false := by decide) (he : starEach (e :: es) X.env = (false, eval e X.env) :: starEach es X.env := by rfl) (hpl : (backTo pos (starEach es X.env)).any (·.1) = false := by rfl) : WE X P (.Call (.Name x p) (e :: es) [] pos) δ M Q := we_call c hr hg h hdb he hpl
end
end PW
/-! MBin -/
namespace PW
end PW
/-! MCrt -/
namespace PW
end PW
/-! MVal -/
namespace PW
end PW
/-! MFal -/
namespace PW
end PW
/-! MForm -/
namespace PW
end PW
/-! MRow -/
namespace PW
end PW
/-! MSure -/
namespace PW
end PW
/-! MFill -/
namespace PW
end PW
/-! PWT -/
namespace PW
open PySem L2 PyProof.Rows
section
variable {X : Cx} {P : XP} {F : Hp} {M : Cells} {δ : Slots} {σ : L2.St} {H : Hp} {e a b c o : Expr} {es : List Expr} {pos apos cpos p p2 q : Pos}
theorem Stt.setAt {K : PySem.W.Frag} (S : Stt K F M δ σ H) {k : Nat} {a : Addr} {w : World} {f : Int → Bool} {n : Nat} (h : M[k]? = some (a, .set w f n)) : H a = some (SetO w a f n) := S.cell _ (List.mem_of_getElem? h)
/-- set(xs), a cell -/
theorem we_setC {Q : D → Cells → Prop} (hc : X.calm = true) (hg : Gl X "set") (hm : X.mg "set" = none)
    (h : WE X P a δ M fun d M1 => ∃ ns : List Int, LV M1 d (ns.map D.int) ∧ ns.length ≤ 4000 ∧ ∀ p n, n ≤ ns.length → Q (.cel p) ((p, .set X.w (fun j => decide (j ∈ ns)) n) :: M1))
    (he : starEach [a] X.env = (false, eval a X.env) :: starEach [] X.env := by rfl) (hpl : (backTo q (starEach [] X.env)).any (·.1) = false := by rfl) :
    WE X P (.Call (.Name "set" p) [a] [] q) δ M Q :=
  we_of (pe_callTy (cr_setL hc) hg hm (by decide +kernel) (pa_cons pe_sem pa_nil he) (by decide) (by decide) he hpl) fun σ H F G =>
    h.go G fun v H1 F1 M1 d s1 G1 r1 q1 => by
      obtain ⟨ns, hl, hn, q1⟩ := q1
      obtain ⟨l, vs, rfl, e1, e2⟩ := G1.st.readL r1 hl
      rw [e2.ints_inv] at e1
      exact ⟨l, ns, rfl, e1, hn, fun p n hp hle => ret (G1.st.newCell hp (c := .set X.w (fun j => decide (j ∈ ns)) n) upd_same) s1 (.cel p) (q1 p n hle)⟩
/-- s.add(k) -/
theorem we_sadd {Q : D → Cells → Prop} (h : WE X P o δ M fun x M1 => ∃ q, x = .cel q ∧ (∃ (k : Nat) (f : Int → Bool) (n : Nat), M1[k]? = some (q, .set X.w f n)) ∧ WA X P [e] δ M1 fun ys M2 => ∃ (i : Int) (k : Nat) (f : Int → Bool) (n : Nat), ys = [.int i] ∧ M2[k]? = some (q, .set X.w f n) ∧ n < 4000 ∧ Q .non (M2.set k (q, .set X.w (fun j => f j || decide (j = i)) (if f i = true then n else n + 1))))
    (hbase : attributeBase o "add" X.env (eval o X.env) = eval o X.env := by rfl)
    (hfew : ((backTo cpos (starEach [e] X.env)).all (fun x => !x.1) && (backToKw cpos (keywordEach [] X.env)).all (fun x => x.1.isSome)
      && decide (([e] : List Expr).length + ([] : List Keyword).length + (if ([] : List Keyword).isEmpty then 0 else 1) < 30)) = true := by rfl)
    (hline : (apos.endLine == cpos.line) = true := by rfl) (hs : starEach [e] X.env = (false, eval e X.env) :: starEach [] X.env := by rfl) (hplain : (backTo cpos (starEach [] X.env)).any (·.1) = false := by rfl) :
    WE X P (.Call (.Attribute o "add" apos) [e] [] cpos) δ M Q :=
  we_of (pe_sadd pe_sem pa_sem hbase hfew hline hs hplain) fun σ H F G => h.go G fun v H1 F1 M1 x s1 G1 r1 q1 => by
    obtain ⟨q, rfl, ⟨k0, f0, n0, hk0⟩, q1⟩ := q1
    cases r1
    refine ⟨⟨q, f0, n0, rfl, G1.st.setAt hk0⟩, q1.go G1 fun ws H2 F2 M2 ys s2 G2 r2 q2 => ?_⟩
    obtain ⟨i, k, f, n, rfl, hk, hn, hq⟩ := q2
    obtain ⟨w, rfl, rw'⟩ := r2.one
    cases rw'
    refine ⟨q, i, f, n, rfl, rfl, G2.st.setAt hk, by unfold scanBound; omega, ?_⟩
    exact ret (G2.st.setCell (c' := .set X.w (fun j => f j || decide (j = i)) (if f i = true then n else n + 1)) hk upd_same) (s1.trans s2) .non hq
/-- sorted(s), s a set of ints: a cell -/
theorem we_sortedS {Q : D → Cells → Prop} (hc : X.calm = true) (hg : Gl X "sorted") (hm : X.mg "sorted" = none)
    (h : WE X P a δ M fun d M1 => ∃ (q : Addr) (k : Nat) (f : Int → Bool) (n : Nat), d = .cel q ∧ M1[k]? = some (q, .set X.w f n) ∧ n < 64 ∧ ∀ (ns : List Int) (p : Addr), ns.Pairwise (· < ·) → (∀ k, k ∈ ns ↔ f k = true) → ns.length = n → Q (.cel p) ((p, .lst (ns.map D.int)) :: M1))
    (he : starEach [a] X.env = (false, eval a X.env) :: starEach [] X.env := by rfl) (hpl : (backTo pos (starEach [] X.env)).any (·.1) = false := by rfl) :
    WE X P (.Call (.Name "sorted" p) [a] [] pos) δ M Q :=
  we_of (pe_callB (cr_sortedSet hc) hg hm (by decide +kernel) (pa_cons pe_sem pa_nil he) (by decide) (by decide) he hpl) fun σ H F G =>
    h.go G fun v H1 F1 M1 d s1 G1 r1 q1 => by
      obtain ⟨q, k, f, n, rfl, hk, hn, q1⟩ := q1
      cases r1
      refine ⟨q, f, n, rfl, G1.st.setAt hk, hn, fun ns p h1 h2 h3 hp => ?_⟩
      exact ret (G1.st.newL hp (Reps.ints ns)) s1 (.cel p) (q1 ns p h1 h2 h3)

def pD (x : Int × Int) : D := .tup [.int x.1, .int x.2]
def LexLe (x y : Int × Int) : Prop := x.1 < y.1 ∨ (x.1 = y.1 ∧ x.2 ≤ y.2)
def PairAt (K : PySem.W.Frag) (H : Hp) (x : V) (i : Int × Int) : Prop := ∃ t, x = .ref t ∧ SqT K H t [.int i.1, .int i.2]
def rSortedP2 (K : PySem.W.Frag) : List V → Hp → VK → Prop := fun vs H Q => ∃ (a : Addr) (xs : List V) (ps : List (Int × Int)), vs = [.ref a] ∧ SqL K H a xs ∧ Paired (PairAt K H) xs ps ∧
  ∀ (zs : List (V × (Int × Int))) (p : Addr), zs.Perm (xs.zip ps) → zs.Pairwise (fun x y => LexLe x.2 y.2) → H p = none → Q (.ref p) (upd H p (.lst (zs.map Prod.fst)))
theorem prd_zip {α β : Type} {R : α → β → Prop} {k : α → β} : ∀ {xs : List α} {ps : List β}, Paired R xs ps → (∀ x p, R x p → p = k x) → xs.zip ps = xs.map fun x => (x, k x)
  | _, _, .nil, _ => rfl
  | _, _, .cons h t, g => by
    rw [List.zip_cons_cons, List.map_cons, prd_zip t g, g _ _ h]
theorem prd_mem {α β : Type} {R : α → β → Prop} : ∀ {xs : List α} {ps : List β}, Paired R xs ps → ∀ x ∈ xs, ∃ p, R x p
  | _, _, .nil, x, h => by cases h
  | _, _, .cons h t, x, hx => by
    rcases List.mem_cons.mp hx with rfl | hx
    · exact ⟨_, h⟩
    · exact prd_mem t x hx
/-- the pair that a value is, by the heap's abstract reading (any, where it is none) -/
noncomputable def pairOf (K : PySem.W.Frag) (H : Hp) (x : V) : Int × Int := open Classical in if h : ∃ p, PairAt K H x p then h.choose else (0, 0)
theorem pairOf_at {pins : List (Addr × Obj)} {s : Shared} (I : Inv X pins σ H s) {x : V} {p : Int × Int} (h : PairAt X.K H x p) : p = pairOf X.K H x := by
  have ex : ∃ p', PairAt X.K H x p' := ⟨p, h⟩
  have e : pairOf X.K H x = ex.choose := dif_pos ex
  rw [e]
  obtain ⟨t, e1, h1⟩ := h
  obtain ⟨t', e2, h2⟩ := ex.choose_spec
  rw [e1] at e2
  cases e2
  have z := I.tuple_inj h1 h2
  simp only [List.cons.injEq, V.int.injEq, and_true] at z
  exact Prod.ext z.1 z.2
/-- such a value in the heap -/
theorem pair_held {pins : List (Addr × Obj)} {s : Shared} (I : Inv X pins σ H s) {t : Addr} {p : Int × Int} (h : PairAt X.K H (.ref t) p) : Srt.IsPair s.heap (.ref t) p.1 p.2 := by
  obtain ⟨t', e, g⟩ := h
  cases e
  obtain ⟨its, rr, ⟨o, o1, o2, n, o3⟩, _⟩ := I.tuple g
  obtain ⟨u, u', e', r1, r2⟩ := vals2 rr
  obtain ⟨k1, rfl⟩ := r1
  obtain ⟨k2, rfl⟩ := r2
  rw [e'] at o3
  exact ⟨t, o, k1, k2, n, rfl, o1, o2, o3⟩
theorem cr_sortedP2 : CallR X (.builtin "sorted") (rSortedP2 X.K) := by
  intro pins s σ H args us Q I r h
  obtain ⟨a, xs, ps, rfl, hs, hx, q⟩ := h
  obtain ⟨its, rv, pl, sz⟩ := I.list hs
  obtain rfl := Vals.ref1 r
  have key : ∀ x ∈ xs, PairAt X.K H x (pairOf X.K H x) := fun x m => by
    obtain ⟨p, hp⟩ := prd_mem hx x m
    rw [← pairOf_at I hp]
    exact hp
  obtain ⟨back, refs⟩ := refs_back rv fun x m => (key x m).imp fun _ z => z.1
  have its_sz : its.length ≤ sizeLine := by rw [← rv.length]; exact sz
  refine SrtO.sorted_pairsO (k := pairOf X.K H ∘ backV) pl.isList its_sz ?_ ?_
  · intro u hu
    obtain ⟨t, e⟩ := refs u hu
    subst e
    refine pair_held I (key _ ?_)
    rw [back]
    exact List.mem_map_of_mem hu
  · intro h2 d out srt stb keeps new laid
    obtain ⟨n, laid⟩ := laid
    have prm : (out.map backV).Perm xs := by
      rw [back]
      exact stb.perm.map backV
    have q2 := q ((out.map backV).map fun x => (x, pairOf X.K H x)) d (by rw [prd_zip hx fun _ _ z => pairOf_at I z]; exact prm.map _) (by
      rw [List.pairwise_map, List.pairwise_map]
      refine List.Pairwise.imp (fun {x y} z => ?_) srt
      have z' := SrtO.lexB_no.mp z
      simp only [Function.comp] at z'
      show (pairOf X.K H (backV x)).1 < (pairOf X.K H (backV y)).1 ∨ ((pairOf X.K H (backV x)).1 = (pairOf X.K H (backV y)).1 ∧ (pairOf X.K H (backV x)).2 ≤ (pairOf X.K H (backV y)).2)
      omega) (I.hok.fresh new)
    have e : ((out.map backV).map fun x => (x, pairOf X.K H x)).map Prod.fst = out.map backV := by simp
    rw [e] at q2
    exact ⟨.ref d, upd H d (.lst (out.map backV)), I.laid (t' := s.toks) keeps new ⟨by rw [prm.length_eq]; exact sz, out, n, vals_back fun u m => refs u (stb.perm.mem_iff.mp m), laid⟩, rfl, q2⟩
theorem reps_pairs {K : PySem.W.Frag} (s : Same F H) : ∀ {ps : List (Int × Int)} {vs : List V}, Reps K F vs (ps.map pD) → Paired (PairAt K H) vs ps
  | [], _, h => by cases h; exact .nil
  | p :: ps, _, h => by
    cases h with
    | cons a b =>
      refine .cons ?_ (reps_pairs s b)
      cases a with
      | tup h1 h2 =>
        cases h2 with
        | cons r1 r2 =>
          cases r2 with
          | cons r2 r3 =>
            cases r1; cases r2; cases r3
            exact ⟨_, rfl, Same.tup s h1⟩
theorem reps_zip {K : PySem.W.Frag} {f : Int × Int → D} : ∀ {ps : List (Int × Int)} {vs : List V}, Reps K F vs (ps.map f) → ∀ z ∈ vs.zip ps, Rep K F z.1 (f z.2)
  | [], _, h, z, hz => by simp at hz
  | p :: ps, _, h, z, hz => by
    cases h with
    | cons a b =>
      rw [List.zip_cons_cons] at hz
      rcases List.mem_cons.mp hz with rfl | hz
      · exact a
      · exact reps_zip b z hz
theorem reps_of_mem {K : PySem.W.Frag} {α : Type} {g : α → V} {f : α → D} : ∀ {zs : List α}, (∀ z ∈ zs, Rep K F (g z) (f z)) → Reps K F (zs.map g) (zs.map f)
  | [], _ => .nil
  | z :: zs, h => .cons (h z List.mem_cons_self) (reps_of_mem fun y hy => h y (List.mem_cons_of_mem _ hy))
/-- sorted(xs), xs a list of pairs: a new list, frozen -/
theorem we_sortedP {Q : D → Cells → Prop} (hg : Gl X "sorted") (hm : X.mg "sorted" = none)
    (h : WE X P a δ M fun d M1 => ∃ ps : List (Int × Int), LV M1 d (ps.map pD) ∧ ∀ qs : List (Int × Int), qs.Perm ps → qs.Pairwise LexLe → Q (.lst (qs.map pD)) M1)
    (he : starEach [a] X.env = (false, eval a X.env) :: starEach [] X.env := by rfl) (hpl : (backTo pos (starEach [] X.env)).any (·.1) = false := by rfl) :
    WE X P (.Call (.Name "sorted" p) [a] [] pos) δ M Q :=
  we_of (pe_callB cr_sortedP2 hg hm (by decide +kernel) (pa_cons pe_sem pa_nil he) (by decide) (by decide) he hpl) fun σ H F G =>
    h.go G fun v H1 F1 M1 d s1 G1 r1 q1 => by
      obtain ⟨ps, hl, q1⟩ := q1
      obtain ⟨l, vs, rfl, e1, e2⟩ := G1.st.readL r1 hl
      refine ⟨l, vs, ps, rfl, e1, reps_pairs G1.st.le e2, fun zs p h1 h2 hp => ?_⟩
      have hln : vs.length = ps.length := by rw [e2.length, List.length_map]
      have q2 := q1 (zs.map Prod.snd) (by
        have := h1.map Prod.snd
        rw [List.map_snd_zip (by omega)] at this
        exact this) (List.pairwise_map.mpr h2)
      obtain ⟨S, s2⟩ := G1.st.froz (o := .lst (zs.map Prod.fst)) hp
      refine ret S (s1.trans s2) (.lst (.of upd_same) ?_) q2
      rw [List.map_map]
      exact reps_of_mem fun z hz => (reps_zip e2 z (h1.mem_iff.mp hz)).up s2
end
end PW
/-! PWU -/
namespace PW
open PySem L2 PyProof.Rows
def Small (i : Int) : Prop := i.natAbs ≤ 10 ^ 30
def itemD (x : Int × Int) : D := .tup [.int x.1, .int x.2]
def bookD (xs : List (Int × Int)) : List D := xs.map itemD
def BookOk (xs : List (Int × Int)) : Prop := xs.length ≤ 24 ∧ (∀ x ∈ xs, Small x.1 ∧ Small x.2) ∧ (xs.map Prod.fst).Pairwise (· < ·)
theorem cutD_1 (ds : List D) : cutD ds (some 1) none = ds.drop 1 := by
  unfold cutD
  have e : HT.sIx ds.length 0 (some 1) = min 1 ds.length := by
    show (if (1 : Int) < 0 then ((1 : Int) + (ds.length : Int)).toNat else min (1 : Int).toNat ds.length) = _
    rw [if_neg (by decide)]; rfl
  rw [e]
  show List.take (ds.length - min 1 ds.length) (ds.drop (min 1 ds.length)) = _
  cases ds with
  | nil => rfl
  | cons c cs => simp
theorem all_true {α : Type} (xs : List α) : ∃ bs : List Bool, bs.map D.bl = xs.map (fun _ => D.bl true) ∧ bs.all id = true := ⟨List.replicate xs.length true, by rw [List.map_replicate]; exact (List.map_const' ..).symm, by simp⟩
theorem LV.app {M : Cells} {d : D} {ds : List D} (h : LV M d ds) : ∀ rest : Cells, LV (rest ++ M) d ds
  | [] => h
  | _ :: rest => (LV.app h rest).cons
section
variable {X : Cx} {P : XP} {F : Hp} {M : Cells} {δ : Slots} {σ : L2.St} {H : Hp} {e : Expr}
theorem WE.few {Q : D → Cells → Prop} (h : WE X P e δ M fun d M' => ∃ M0 : Cells, M0.Sublist M' ∧ Q d M0) : WE X P e δ M Q := fun σ H F G => h.go G fun v H1 F1 M1 d s1 G1 r1 q1 => by
  obtain ⟨M0, hs, q⟩ := q1
  exact ret (G1.st.fewer hs) s1 r1 q
theorem wb_drop {b : List Stmt} {E : En} {M0 : Cells} (hM : M0.Sublist M) (h : WB X P b δ M0 E) : WB X P b δ M E := fun σ H F G => h σ H F ⟨G.st.fewer hM, G.tk⟩
end
theorem okDs_book : ∀ xs : List (Int × Int), okDs (bookD xs) = true
  | [] => rfl
  | x :: xs => by
    show (okD (itemD x) && okDs (bookD xs)) = true
    rw [okDs_book xs]
    rfl
theorem lay_book : ∀ xs : List (Int × Int), PyData.canLayAll0 (pys (bookD xs)) = true
  | [] => by simp [bookD, pys, PyData.canLayAll0]
  | x :: xs => by
    show (PyData.canLayAll0 (.tuple [.int x.1, .int x.2] :: pys (bookD xs))) = true
    simp [PyData.canLayAll0, PyData.canLay0, lay_book xs]
theorem dep_book : ∀ xs : List (Int × Int), PyData.depthAll (pys (bookD xs)) ≤ 4
  | [] => by simp [bookD, pys, PyData.depthAll]
  | x :: xs => by
    have := dep_book xs
    show PyData.depthAll (.tuple [.int x.1, .int x.2] :: pys (bookD xs)) ≤ 4
    simp only [PyData.depthAll, PyData.depth]
    omega
theorem shaped_list {xs : List PyData} (h1 : PyData.canLayAll0 xs = true) (h2 : PyData.depthAll xs ≤ 60) : SeqAt.shaped (.list xs) = true := by
  have h3 : PyData.depth (.list xs) ≤ 64 := by simp only [PyData.depth]; omega
  unfold SeqAt.shaped
  rw [Bool.and_eq_true]
  exact ⟨by simp only [PyData.canLay0]; exact h1, decide_eq_true h3⟩
theorem shaped_book (xs : List (Int × Int)) : SeqAt.shaped (.list (pys (bookD xs))) = true := shaped_list (lay_book xs) (Nat.le_trans (dep_book xs) (by decide))
theorem okDs_ints : ∀ xs : List Int, okDs (xs.map D.int) = true
  | [] => rfl
  | x :: xs => by show (true && okDs (xs.map D.int)) = true; rw [okDs_ints xs]; rfl
theorem lay_ints : ∀ xs : List Int, PyData.canLayAll0 (pys (xs.map D.int)) = true ∧ PyData.depthAll (pys (xs.map D.int)) ≤ 4
  | [] => by simp [pys, PyData.canLayAll0, PyData.depthAll]
  | x :: xs => by
    have := lay_ints xs
    show PyData.canLayAll0 (.int x :: pys (xs.map D.int)) = true ∧ PyData.depthAll (.int x :: pys (xs.map D.int)) ≤ 4
    simp only [PyData.depthAll, PyData.depth, PyData.canLayAll0, PyData.canLay0, this.1]
    exact ⟨rfl, by omega⟩
section
variable {X : Cx} {P : XP} {F : Hp} {M : Cells} {δ : Slots} {σ : L2.St} {H : Hp} {a : Expr} {pos p : Pos}
end
theorem CL.imp {M : Cells} {b : Addr} {R R' : List D → (List D → Cells) → Prop} (h : CL M b R) (k : ∀ L f, R L f → R' L f) : CL M b R' := let ⟨i, L, h1, h2⟩ := h; ⟨i, L, h1, k _ _ h2⟩
theorem shaped_ints (xs : List Int) : SeqAt.shaped (.list (pys (xs.map D.int))) = true := shaped_list (lay_ints xs).1 (Nat.le_trans (lay_ints xs).2 (by decide))
end PW
/-! PWV -/
namespace PW
open PySem L2 PyProof.Rows
section
variable {X : Cx} {P : XP} {F : Hp} {M : Cells} {δ : Slots} {σ : L2.St} {H : Hp} {e a b c o : Expr} {es : List Expr} {pos pos' p p1 p2 p3 q : Pos}
/-- xs * k, xs a list just made -/
theorem we_mulL {Q : D → Cells → Prop} (h : WE X P a δ M fun d M1 => WE X P b δ M1 fun e M2 => ∃ (k : Nat) (p : Addr) (ds : List D) (n : Int), d = .cel p ∧ M2[k]? = some (p, .lst ds) ∧ e = .int n ∧ -(2 ^ 63) ≤ n ∧ n < 2 ^ 63 ∧ ds.length * n.toNat ≤ sizeLine ∧ Q (.lst (List.replicate n.toNat ds).flatten) (M2.eraseIdx k)) : WE X P (.BinOp a .Mult b pos) δ M Q :=
  we_of (pe_op op_rep pe_sem pe_sem) fun σ H F G => h.go G fun v H1 F1 M1 d s1 G1 r1 q1 => q1.go G1 fun u H2 F2 M2 e s2 G2 r2 q2 => by
    obtain ⟨k, p, ds, n, rfl, hk, rfl, h1, h2, h3, q2⟩ := q2
    cases r1; cases r2
    obtain ⟨vs, e1, e2, e3⟩ := G2.st.cellAt (List.mem_of_getElem? hk)
    refine ⟨p, n, vs, rfl, rfl, e1, h1, h2, by rw [e3.length]; exact h3, fun q hq => ?_⟩
    obtain ⟨S, s3⟩ := (G2.st.fewer (List.eraseIdx_sublist M2 k)).froz (o := .lst (List.replicate n.toNat vs).flatten) hq
    exact ret S ((s1.trans s2).trans s3) (.lst (.of upd_same) ((e3.replicate n.toNat).up s3)) q2
end
end PW
/-! PWX -/
namespace PW
open PySem L2 PyProof.Rows
section
variable {X : Cx} {P : XP} {F : Hp} {M : Cells} {δ : Slots} {σ : L2.St} {H : Hp} {e : Expr} {pos : Pos} {E : En}
end
end PW
/-! PWR -/
namespace PW
open PySem L2 PyProof.Rows
mutual
inductive RP (M : Cells) : D → PyData → Prop
  | non : RP M .non .none
  | bl (b : Bool) : RP M (.bl b) (.bool b)
  | int (i : Int) : RP M (.int i) (.int i)
  | str (x : Str) : RP M (.str x) (.str x)
  | tup {ds : List D} {qs : List PyData} : RPs M ds qs → RP M (.tup ds) (.tuple qs)
  | lst {ds : List D} {qs : List PyData} : RPs M ds qs → RP M (.lst ds) (.list qs)
  | cel {k : Nat} {a : Addr} {ds : List D} {qs : List PyData} : M[k]? = some (a, .lst ds) → RPs M ds qs → RP M (.cel a) (.list qs)
inductive RPs (M : Cells) : List D → List PyData → Prop
  | nil : RPs M [] []
  | cons {d : D} {q : PyData} {ds : List D} {qs : List PyData} : RP M d q → RPs M ds qs → RPs M (d :: ds) (q :: qs)
end
section
variable {K : PySem.W.Frag} {F H : Hp} {M : Cells} {δ : Slots} {σ : L2.St}
mutual
theorem Stt.readN (S : Stt K F M δ σ H) : ∀ (q : PyData) (d : D) (v : V), RP M d q → Rep K F v d → Dp K H v q
  | .none, _, _, h, r => by cases h; cases r; exact .non
  | .bool _, _, _, h, r => by cases h; cases r; exact .bl _
  | .int _, _, _, h, r => by cases h; cases r; exact .int _
  | .str _, _, _, h, r => by cases h; cases r; exact .str _
  | .tuple qs, _, _, h, r => by
    cases h with | tup h1 => cases r with | tup a b => exact .tup (Same.tup S.le a) (Stt.readNs S qs _ _ h1 b)
  | .list qs, _, _, h, r => by
    cases h with
    | lst h1 => cases r with | lst a b => exact .lst (S.le.seq a) (Stt.readNs S qs _ _ h1 b)
    | cel e h1 =>
      cases r
      obtain ⟨vs, e1, _, e3⟩ := S.cellAt (List.mem_of_getElem? e)
      exact .lst (.of e1) (Stt.readNs S qs _ _ h1 e3)
  | .dict _, _, _, h, _ => by cases h
theorem Stt.readNs (S : Stt K F M δ σ H) : ∀ (qs : List PyData) (ds : List D) (vs : List V), RPs M ds qs → Reps K F vs ds → DpAll K H vs qs
  | [], _, _, h, r => by cases h; cases r; exact .nil
  | q :: qs, _, _, h, r => by cases h with | cons h1 h2 => cases r with | cons a b => exact .cons (Stt.readN S q _ _ h1 a) (Stt.readNs S qs _ _ h2 b)
end
mutual
theorem dp_noDict : ∀ (d : PyData) (v : V), Dp K H v d → d.hasDict = false
  | .none, _, _ => by simp only [PyData.hasDict]
  | .bool _, _, _ => by simp only [PyData.hasDict]
  | .int _, _, _ => by simp only [PyData.hasDict]
  | .str _, _, _ => by simp only [PyData.hasDict]
  | .list xs, _, h => by cases h with | lst _ a => simp only [PyData.hasDict]; exact dps_noDict xs _ a
  | .tuple xs, _, h => by cases h with | tup _ a => simp only [PyData.hasDict]; exact dps_noDict xs _ a
  | .dict _, _, h => by cases h
theorem dps_noDict : ∀ (ds : List PyData) (vs : List V), DpAll K H vs ds → PyData.hasDictAll ds = false
  | [], _, _ => by simp only [PyData.hasDictAll]
  | d :: ds, _, h => by
    cases h with | cons a b => simp only [PyData.hasDictAll, dp_noDict d _ a, dps_noDict ds _ b]; rfl
end
end
section
variable {X : Cx} {P : XP} {F : Hp} {M : Cells} {δ : Slots} {σ : L2.St} {H : Hp} {e a b c o : Expr} {es : List Expr} {pos apos cpos p p2 : Pos}
end
section
variable {P : Program} {w : World} {K : PySem.W.Frag} {mg : Str → Option Value} {base : Heap}
end
section
variable {X : Cx} {P : XP} {F : Hp} {M : Cells} {δ : Slots} {σ : L2.St} {H : Hp} {e a b c o : Expr} {es : List Expr} {pos apos cpos p p2 : Pos}
end
section
variable {P : Program} {w : World} {K : PySem.W.Frag} {mg mb : Str → Option Value} {CX : CXT} {fa a : Addr} {fd : FuncData} {x : Str} {sp : Sp} {s₁ : Shared} {vs : List Value} {ns : List Int}
end
end PW
/-! PWQ -/
set_option exponentiation.threshold 100000
namespace PW
open PySem L2 PyProof.Rows
section
variable {prog : Program} {w : World}
end
section
variable {X : Cx} {P : XP} {F : Hp} {M : Cells} {δ : Slots} {σ : L2.St} {H : Hp} {e : Expr} {pos p : Pos}
end
section
variable {P : Program} {w : World} {K : PySem.W.Frag} {mg mb : Str → Option Value} {CX : CXT} {fa a : Addr} {fd : FuncData} {x : Str} {sp : Sp} {s₁ : Shared} {vs : List Value} {ns : List Int}
end
end PW
/-! PWP -/
set_option exponentiation.threshold 100000
namespace PW
open PySem L2 PyProof.Rows
section
variable {X : Cx} {P : XP} {F : Hp} {M : Cells} {δ : Slots} {σ : L2.St} {H : Hp} {e : Expr} {pos p : Pos}
end
end PW
/-! PWO -/
namespace PW
open PySem L2 PyProof.Rows
section
variable {X : Cx} {P : XP} {F : Hp} {M : Cells} {δ : Slots} {σ : L2.St} {H : Hp} {a b : Expr} {pos p : Pos}
/-- {}, a cell -/
theorem we_dctC {Q : D → Cells → Prop} (h : ∀ p, Q (.cel p) ((p, .dct []) :: M)) : WE X P (.Dict [] [] pos) δ M Q :=
  we_of pe_dnewK fun σ H F G => fun p hp => ret (G.st.newCell (c := .dct []) hp ⟨[], upd_same, .nil⟩) (Same.refl _) (.cel p) (h p)
def RIsiD : RDA := fun ds M Q => ∃ (c : Addr) (k : Nat) (kvs : List (Key × D)), ds = [.cel c, .raw (.ty "list")] ∧ M[k]? = some (c, .dct kvs) ∧ Q (.bl false) M
theorem lift_isiD : LiftA X (rIsi X.K) RIsiD := fun k s S r h => by
  obtain ⟨c, i, kvs, rfl, hk, q⟩ := h
  obtain ⟨v, w, rfl, r1, r2⟩ := r.two
  cases r1; cases r2
  obtain ⟨xs, e1, _⟩ := S.cell _ (List.mem_of_getElem? hk)
  exact ⟨_, .ty "list", .type "dict", .type "list", false, rfl, .ty "list", .base (.dK e1), kit_ty (by decide +kernel), k _ _ (ret S s (.bl _) q)⟩
/-- isinstance(d, list), d a dict cell -/
theorem we_isiD {Q : D → Cells → Prop} (hg : Gl X "isinstance") (hm : X.mg "isinstance" = none) (h : WA X P [a, b] δ M fun ds M1 => RIsiD ds M1 Q) (he : starEach [a, b] X.env = (false, eval a X.env) :: starEach [b] X.env := by rfl) (hpl : (backTo pos (starEach [b] X.env)).any (·.1) = false := by rfl) : WE X P (.Call (.Name "isinstance" p) [a, b] [] pos) δ M Q :=
  we_callB call_isi lift_isiD hg hm (by decide +kernel) h (by decide) (by decide) he hpl
end
end PW
/-! PWL -/
set_option exponentiation.threshold 100000
namespace PW
open PySem L2 PyProof.Rows
section
variable {X : Cx} {P : XP} {F : Hp} {M : Cells} {δ : Slots} {σ : L2.St} {H : Hp} {a b e : Expr} {pos p : Pos}
end
end PW
/-! PWD -/
namespace PW
open PySem L2 PyProof.Rows
section
variable {P : Program} {w : World} {K : PySem.W.Frag} {mg : Str → Option Value} {base : Heap}
end
section
variable {X : Cx} {P : XP} {F : Hp} {M : Cells} {δ : Slots} {σ : L2.St} {H : Hp} {e a b c o : Expr} {es : List Expr} {pos apos cpos p p2 : Pos}
end
end PW
/-! PWE -/
namespace PW
open PySem L2 PyProof.Rows
/-- an own error class whose __init__ stands at fI -/
structure ExcI (K : PySem.W.Frag) (mg : Str → Option Value) (x : Str) (C fI : Addr) (fs : List Str) : Prop where
  g : mg x = some (.ref C)
  T : L2.OexC K C
  F : L2.XfC K C
  iC : PySem.W.findIn K (.ref C) "__init__" = some (some (.ref fI))
  tI : PySem.W.typeIn K (.ref fI) = some (.type "function")
  no : ∀ f ∈ fs, PySem.W.findIn K (.ref C) f = some none
  e : PySem.W.exmOne K (.ref C) (.ref C) = some true
/-- the base class, which has no __init__ of its own -/
structure BasI (K : PySem.W.Frag) (mg : Str → Option Value) (x : Str) (C : Addr) (mc : Value) : Prop where
  g : mg x = some (.ref C)
  a : PySem.W.specialIn K (.ref C) "__getattribute__" = some (some (.builtin "type.__getattribute__"))
  r : PySem.W.readsIn K C mc = true
  v : PySem.W.findCls K (.ref C) mc "__init__" = some (.val (.builtin "ValueError.__init__"))
def spIni2 (C : Addr) (f1 f2 : Str) : Sp := fun vs H Q _ => ∃ (a : Addr) (v1 v2 : V), vs = [.ref a, v1, v2] ∧ H a = some (exo a C none) ∧ ∀ dx, H dx = none → dx ≠ a → Q .non (upd (upd (upd H dx (exd dx [(f1, v1)])) a (exo a C (some dx))) dx (exd dx [(f2, v2), (f1, v1)]))
section
variable {X : Cx} {P : XP} {F : Hp} {M : Cells} {δ : Slots} {σ : L2.St} {H : Hp} {e e1 e2 : Expr} {es : List Expr} {pos p : Pos} {E : En} {R : Ex → Cells → Prop}
/-- C(e1, e2) -/
theorem wm_ini2 {x : Str} {C fI : Addr} {f1 f2 : Str} {fd : FuncData} {ps : List Str} (c : ExcI X.K X.mg x C fI [f1, f2]) (Fi : FnOk X.prog X.w X.K X.mg X.base (L2.CX X.prog X.w) 1 fI fd ps (spIni2 C f1 f2)) (hb : Binds X.K fd ps []) (hr : Room 2 X.A) (hg : Gl X x)
    (h : WA X P [e1, e2] δ M fun ds M' => ∃ i j : Int, ds = [.int i, .int j] ∧ R ⟨C, [(f2, .int j), (f1, .int i)]⟩ M') (hdb : (x == ("__debug__" : Str)) = false := by decide)
    (he : starEach [e1, e2] X.env = (false, eval e1 X.env) :: starEach [e2] X.env := by rfl) (hpl : (backTo pos (starEach [e2] X.env)).any (·.1) = false := by rfl) : WM X P (.Call (.Name x p) [e1, e2] [] pos) δ M R :=
  ⟨_, pmk_oex c.T c.iC c.tI Fi hr hb .nil passL hg c.g pa_sem hdb he hpl, fun σ H F G Q k => h.go G fun vs H1 F1 M1 ds s1 G1 r1 q1 => by
    obtain ⟨i, j, rfl, q⟩ := q1
    obtain ⟨v1, v2, rfl, a1, a2⟩ := r1.two
    cases a1; cases a2
    refine ⟨by simp, fun a ha => ⟨a, .int i, .int j, rfl, upd_same, fun dx hdx hne => ⟨rfl, dx, [(f2, .int j), (f1, .int i)], ?_, upd_same, ?_, ?_⟩⟩⟩
    · rw [upd_ne (Ne.symm hne), upd_same]
    · rwa [upd_ne hne] at hdx
    · rw [upd_ne hne] at hdx
      have e : upd (del (upd (upd (upd (upd H1 a (exo a C none)) dx (exd dx [(f1, .int i)])) a (exo a C (some dx))) dx (exd dx [(f2, .int j), (f1, .int i)])) a) dx (.xd [(f2, .int j), (f1, .int i)]) = upd H1 dx (.xd [(f2, .int j), (f1, .int i)]) := by
        funext b
        by_cases h1 : b = dx
        · subst h1; rw [upd_same, upd_same]
        · rw [upd_ne h1, upd_ne h1]
          by_cases h2 : b = a
          · subst h2; rw [del_same, ha]
          · rw [del_ne h2, upd_ne h1, upd_ne h2, upd_ne h1, upd_ne h2]
      rw [e]
      obtain ⟨S, s2⟩ := G1.st.froz (o := .xd [(f2, .int j), (f1, .int i)]) hdx
      exact k _ _ _ _ _ ⟨C, [(f2, .int j), (f1, .int i)]⟩ (s1.trans s2) S ⟨rfl, .inr ⟨dx, _, rfl, upd_same, .cons ⟨rfl, .int j⟩ (.cons ⟨rfl, .int i⟩ .nil)⟩⟩ q⟩
end
def fsD (fs : List (Str × Int)) : List (Str × D) := fs.map fun p => (p.1, .int p.2)
theorem fs_inv {K : PySem.W.Frag} {F : Hp} : ∀ {fs : List (Str × Int)} {vs : List (Str × V)}, FsIs K F vs (fsD fs) → vs = fs.map fun p => (p.1, V.int p.2)
  | [], _, h => by cases h; rfl
  | p :: fs, vs, h => by
    have h' : FsIs K F vs ((p.1, .int p.2) :: fsD fs) := h
    cases h' with
    | @cons a _ l _ r t =>
      obtain ⟨x, v⟩ := a
      obtain ⟨e, r⟩ := r
      cases r
      rw [fs_inv t]
      cases e
      rfl
theorem Stt.pin {K : PySem.W.Frag} {F : Hp} {M : Cells} {δ : Slots} {σ : L2.St} {H : Hp} (S : Stt K F M δ σ H) {dd : Addr} {vs : List (Str × V)} (h : H dd = some (.xd vs)) : ∃ F', Same F F' ∧ Stt K F' M δ σ H ∧ F' dd = some (.xd vs) := by
  have s : Same F (upd F dd (.xd vs)) := fun b u e => by
    by_cases hb : b = dd
    · subst hb; rw [upd_same, ← h]; exact S.le _ _ e
    · rw [upd_ne hb]; exact e
  refine ⟨_, s, ⟨fun b u e => ?_, S.nd, fun p hp => (S.cell p hp).mono s rfl, fun p hp => ?_, fun i d e => ?_, S.dlen⟩, upd_same⟩
  · by_cases hb : b = dd
    · subst hb; rw [upd_same] at e; rw [h]; exact e
    · rw [upd_ne hb] at e; exact S.le b u e
  · have hne : p.1 ≠ dd := fun z => by
      have c := S.cell p hp
      obtain ⟨a, c0⟩ := p
      obtain rfl : a = dd := z
      cases c0 with
      | lst ds => obtain ⟨vs', h1, _⟩ := c; rw [h] at h1; cases h1
      | dct kvs => obtain ⟨vs', h1, _⟩ := c; rw [h] at h1; cases h1
      | set w f n => have c' : H a = some (SetO w a f n) := c; rw [h] at c'; cases c'
      | ins C dx fs => obtain ⟨⟨vs', h1, _⟩, _⟩ := c; rw [h] at h1; cases h1
    rw [upd_ne hne]; exact S.out p hp
  · obtain ⟨v, h1, h2⟩ := S.slot i d e
    exact ⟨v, h1, h2.up s⟩
section
variable {X : Cx} {P : XP} {F : Hp} {M : Cells} {δ : Slots} {σ : L2.St} {H : Hp} {e : Expr} {pos : Pos} {E : En}
/-- e.f in the suite -/
theorem we_xf {C a dd : Addr} {oe : Obj} {pn : List (Addr × Obj)} {i : Nat} {n f : Str} {fs : List (Str × Int)} {p : Pos} {k : Int} {Q : D → Cells → Prop} (T : XfC X.K C) (hno : PySem.W.findIn X.K (.ref C) f = some none) (hz : Zc (.ref C) (some dd) oe) (hf : ∃ vs, oe.data = .fields vs)
    (hN : X.N[i]? = some n) (hv : Vis X.env.scope n) (hd : δ[i]? = some (some (.exc a dd fs))) (hl : fs.lookup f = some k) (h : Q (.int k) M) (h1 : (n == ("__debug__" : Str)) = false := by decide) (h2 : (n == ("__classdict__" : Str)) = false := by decide)
    (hb : attributeBase (.Name n p) f (X.suite a ((a, oe) :: pn)).env (eval (.Name n p) (X.suite a ((a, oe) :: pn)).env) = eval (.Name n p) (X.suite a ((a, oe) :: pn)).env := by rfl) :
    WE (X.suite a ((a, oe) :: pn)) P (.Attribute (.Name n p) f pos) δ M Q :=
  we_of (pe_xf T hno hz hf (pe_var (X := X.suite a ((a, oe) :: pn)) hN hv h1 h2) hb) fun σ H F G => by
    obtain ⟨v, e1, r⟩ := G.st.slot i _ hd
    cases r with
    | exc _ _ _ hF =>
      refine ⟨_, e1, rfl, rfl, dd, _, .int k, rfl, G.st.le _ _ hF, ?_, ret G.st (Same.refl _) (.int k) h⟩
      clear hF hd h
      induction fs with
      | nil => cases hl
      | cons q fs ih =>
        obtain ⟨y, j⟩ := q
        rw [List.map_cons, List.lookup_cons]
        rw [List.lookup_cons] at hl
        cases hc : f == y with
        | true => rw [hc] at hl; injection hl with hl; subst hl; rfl
        | false => rw [hc] at hl; exact ih hl
end
end PW
/-! PWF -/
namespace PW
open PySem L2 PyProof.Rows
section
variable {X : Cx} {P : XP} {F : Hp} {M : Cells} {δ : Slots} {σ : L2.St} {H : Hp} {a b : Expr} {pos p : Pos}
end
end PW
/-! PWG -/
namespace PW
open PySem PySem.Spec L2 PyProof.Rows
section
variable {prog : Program} {w : World} {A : Around} {R : Result → Shared → Prop} {I S : Addr} {res : Value} {n : Nat}
end
section
variable {prog : Program} {w : World} {A : Around} {E : Value → Shared → Prop} {s : Shared} {I : Addr} {T : String}
end
section
variable {X : Cx} {P : XP} {F : Hp} {M : Cells} {δ : Slots} {σ : L2.St} {H : Hp} {a b : Expr} {pos p pos2 p2 : Pos}
end
end PW
/-! PWH -/
namespace PW
open PySem PySem.Spec L2 PyProof.Rows
section
variable {X : Cx} {P : XP} {F : Hp} {M : Cells} {δ : Slots} {σ : L2.St} {H : Hp} {a : Expr} {pos p pos2 p2 : Pos}
end
end PW
/-! PWI -/
namespace PW
open PySem PySem.Spec L2 PyProof.Rows
section
variable {X : Cx} {P : XP} {F : Hp} {M : Cells} {δ : Slots} {σ : L2.St} {H : Hp} {a : Expr} {pos p p2 q : Pos}
end
end PW
/-! PWJ -/
namespace PW
open PySem L2 PyProof.Rows
theorem ixN_nat {n j : Nat} (h : j < n) : ixN n (j : Int) = some j := by
  unfold ixN
  rw [if_pos (by omega), if_pos (by omega)]
  rfl
section
variable {X : Cx} {P : XP} {F : Hp} {M : Cells} {δ : Slots} {σ : L2.St} {H : Hp} {e a b c o : Expr} {es : List Expr} {pos pos' p p1 q apos cpos : Pos}
end
end PW
/-! PWK -/
namespace PW
open PySem PySem.Spec L2 PyProof.Rows
section
variable {P : Program} {w : World} {A : Around} {E : Value → Shared → Prop} {s : Shared}
end
section
variable {X : Cx} {P : XP} {F : Hp} {M : Cells} {δ : Slots} {σ : L2.St} {H : Hp} {a : Expr} {pos p p2 q : Pos}
end
end PW
/-! PWT2 -/
namespace PW
open PySem PySem.Spec L2 PyProof.Rows
/-- the ends of a suite that has a name, which goes behind it -/
def endsAs (i : Nat) (D : L2.Ends) : L2.Ends := ⟨fun τ G => D.nx (τ.set i none) G, D.rt, fun τ G => D.bk (τ.set i none) G, fun τ G => D.ct (τ.set i none) G⟩
section
variable {X : Cx} {xa xb n : Str} {ca cb : Value} {i : Nat} {body sa sb : List Stmt} {a₀ b₀ : Stmt} {na nb pa pb pos : Pos} {tb : WX → TS} {ta tc : Addr → Value → Option Addr → TS}
end
end PW
namespace PW
open PySem L2 PyProof.Rows
/-- an own error class without an __init__ of its own -/
structure ExcN (K : PySem.W.Frag) (mg : Str → Option Value) (x : Str) (C : Addr) : Prop where
  g : mg x = some (.ref C)
  q : PySem.W.excIn K C [.type "ValueError", .type "Exception", .type "BaseException", .type "object"] "ValueError.__new__" = true
  k : PySem.W.keepIn K (.ref C) = true
  b : PySem.W.subIn K (.ref C) (.type "BaseException") = some true
  t : PySem.W.typeIn K (.ref C) = some (.type "type")
  e : PySem.W.exmOne K (.ref C) (.ref C) = some true
section
variable {X : Cx} {P : XP} {F : Hp} {M : Cells} {δ : Slots} {σ : L2.St} {H : Hp} {E : En}
/-- what is behind a suite with a name: the slot is empty -/
def EnAs (i : Nat) (E : En) : En := { nx := fun δ2 M2 => E.nx (δ2.set i none) M2, rt := E.rt, bk := fun δ2 M2 => E.bk (δ2.set i none) M2, ct := fun δ2 M2 => E.ct (δ2.set i none) M2 }
theorem drop_slot {K : PySem.W.Frag} {i : Nat} (S : Stt K F M δ σ H) : Stt K F M (δ.set i none) (σ.set i none) H := S.slots (by simp [S.dlen]) fun j d e => by
  rcases getElem?_set_cases e with ⟨_, y⟩ | ⟨hj, e⟩
  · cases y
  · obtain ⟨v, g1, g2⟩ := S.slot j d e
    exact ⟨v, by rw [List.getElem?_set_ne (Ne.symm hj)]; exact g1, g2⟩
theorem upEn_as {K : PySem.W.Frag} {i : Nat} {F0 : Hp} (s : Same F0 F) : EnLe (upEn K F (EnAs i E)) (endsAs i (upEn K F0 E)) :=
  ⟨fun _ _ ⟨F3, M3, δ3, s3, S4, q3⟩ => ⟨F3, M3, δ3.set i none, s.trans s3, drop_slot S4, q3⟩, fun _ _ q => upR.base s q, fun _ _ ⟨F3, M3, δ3, s3, S4, q3⟩ => ⟨F3, M3, δ3.set i none, s.trans s3, drop_slot S4, q3⟩, fun _ _ ⟨F3, M3, δ3, s3, S4, q3⟩ => ⟨F3, M3, δ3.set i none, s.trans s3, drop_slot S4, q3⟩⟩
end
end PW
namespace PW
open PySem PySem.Spec L2 PyProof.Rows
section
variable {X : Cx} {P : XP} {F : Hp} {M : Cells} {δ : Slots} {σ : L2.St} {H : Hp} {e : Expr} {k : Nat} {p1 p2 pos : Pos}
end
end PW
namespace PW
open PySem L2 PyProof.Rows
section
variable {X : Cx} {P : XP} {F : Hp} {M : Cells} {δ : Slots} {σ : L2.St} {H : Hp} {a : Expr} {p pos : Pos}
end
end PW
/-! PWOb -/
namespace PW
open PySem L2 PyProof.Rows
def putD (f : Str) (v : D) : List (Str × D) → List (Str × D)
  | [] => [(f, v)]
  | (g, x) :: r => if g = f then (g, v) :: r else (g, x) :: putD f v r
section
variable {K : PySem.W.Frag} {F : Hp}
theorem AVs.put {f : Str} {v : V} {d : D} (r : Rep K F v d) : ∀ {vs : List (Str × V)} {fs : List (Str × D)}, AVs K F vs fs → AVs K F (putF f v vs) (putD f d fs)
  | [], [], .nil => .cons ⟨rfl, r⟩ .nil
  | (x, w) :: vs, (y, e) :: fs, .cons ⟨h1, h2⟩ t => by
    have h1 : x = y := h1
    subst h1
    show AVs K F (if x = f then (x, v) :: vs else (x, w) :: putF f v vs) (if x = f then (x, d) :: fs else (x, e) :: putD f d fs)
    by_cases hx : x = f
    · rw [if_pos hx, if_pos hx]; exact .cons ⟨rfl, r⟩ t
    · rw [if_neg hx, if_neg hx]; exact .cons ⟨rfl, h2⟩ (AVs.put r t)
theorem AVs.len : ∀ {vs : List (Str × V)} {fs : List (Str × D)}, AVs K F vs fs → vs.length = fs.length
  | [], [], .nil => rfl
  | _ :: _, _ :: _, .cons _ t => by simp [AVs.len t]
end
/-- a class whose instances bear plain attributes -/
structure ObC (K : PySem.W.Frag) (C : Addr) (fs : List Str) : Prop where
  c : Cls K C
  n : ∀ f ∈ fs, NoAttr K C f
section
variable {X : Cx} {P : XP} {F : Hp} {M : Cells} {δ : Slots} {σ : L2.St} {H : Hp} {e o v : Expr} {es : List Expr} {pos apos pos' p : Pos} {E : En}
theorem Stt.insAt {K : PySem.W.Frag} (S : Stt K F M δ σ H) {k : Nat} {a C dx : Addr} {fs : List (Str × D)} (h : M[k]? = some (a, Cell.ins C dx fs)) : ∃ vs, H a = some (.ins C dx vs) ∧ AVs K F vs fs ∧ F dx = some (.own a) := by
  obtain ⟨⟨vs, h1, h2⟩, h3⟩ := S.cell _ (List.mem_of_getElem? h)
  exact ⟨vs, h1, h2, h3⟩
/-- o.f = e -/
theorem ws_fld {f : Str} (h : WE X P v δ M fun y M1 => WE X P o δ M1 fun d M2 => ∃ (a : Addr) (k : Nat) (C dx : Addr) (fs : List (Str × D)), d = .cel a ∧ M2[k]? = some (a, Cell.ins C dx fs) ∧ Cls X.K C ∧ NoAttr X.K C f ∧ fs.length < 1000 ∧ E.nx δ (M2.set k (a, .ins C dx (putD f y fs))))
    (hs : swapsWith v (some (.Attribute o f pos')) pos.line X.env = pure false := by rfl) : WS X P (.Assign [.Attribute o f pos'] v pos) δ M E :=
  ws_of (ps_fld pe_sem pe_sem hs) fun σ H F G => h.go G fun y H1 F1 M1 dy s1 G1 r1 q1 => q1.go G1 fun u H2 F2 M2 d s2 G2 r2 q2 => by
    obtain ⟨a, k, C, dx, fs, rfl, hk, c, n, hl, q⟩ := q2
    cases r2
    obtain ⟨vs, e1, e2, e3⟩ := G2.st.insAt hk
    exact ⟨a, C, dx, vs, rfl, e1, c, n, by rw [e2.len]; exact hl, nx_ (G2.st.setCell (c' := .ins C dx (putD f dy fs)) hk ⟨⟨_, upd_same, e2.put (r1.up s2)⟩, e3⟩) (s1.trans s2) q⟩
end
section
variable {X : Cx} {CX : CXT} {k : Nat} {f C : Addr} {fd : FuncData} {ps : List Str} {sp : Sp} {E : L2.St → XK} {m : Str} {pos apos : Pos} {e o : Expr} {es : List Expr} {ta : TE} {t : TA}
end
section
variable {X : Cx} {P : XP} {F : Hp} {M : Cells} {δ : Slots} {σ : L2.St} {H : Hp} {e o v : Expr} {es : List Expr} {pos apos pos' p : Pos} {E : En}
end
end PW
/-! PWOc -/
namespace PW
open PySem L2 PyProof.Rows
section
variable {X : Cx} {P : XP} {F : Hp} {M : Cells} {δ : Slots} {σ : L2.St} {H : Hp} {e o v c : Expr} {es : List Expr} {pos apos pos' cpos p : Pos} {E : En}
/-- C() -/
theorem we_make0 {x : Str} {C f : Addr} {fd : FuncData} {ps : List Str} {k : Nat} {T : TSp} {Q : D → Cells → Prop} (mk : Mk X.K C f) (Fo : FnOk X.prog X.w X.K X.mg X.base (L2.CX X.prog X.w) k f fd ps (spG X.K T)) (mono : Mono T) (hr : Room (k + 1) X.A) (hg : Gl X x) (hm : X.mg x = some (.ref C)) (hb : Binds X.K fd ps [])
    (h : ∀ a dx : Addr, T [.cel a] ((a, Cell.ins C dx []) :: M) (fun d M' => d = .non ∧ Q (.cel a) M') fun _ _ => False) (hdb : (x == ("__debug__" : Str)) = false := by decide) : WE X P (.Call (.Name x p) [] [] pos) δ M Q :=
  we_of (pe_make0 mk Fo hr hg hm hb .nil passL hdb) fun σ H F G => by
    intro a dx ha hdx hne
    obtain ⟨S1, s1⟩ := G.st.froz (o := .own a) hdx
    have S2 := S1.newCell (a := a) (o := .ins C dx []) (c := .ins C dx []) (by rw [upd_ne (Ne.symm hne)]; exact ha) ⟨⟨[], upd_same, .nil⟩, upd_same⟩
    refine ⟨_, _, [.cel a], S2.bare, .cons (.cel a) .nil, mono _ _ _ _ _ _ (fun d M' q v F' H' s' S' r' => ?_) (fun y M' q cls d F' H' s' S' hx => q.elim) (h a dx)⟩
    obtain ⟨rfl, q⟩ := q
    cases r'
    exact ⟨rfl, ret (S'.keep G.st (s1.trans s')) (s1.trans s') (.cel a) q⟩
/-- xs.index(True) of bools -/
theorem we_indexB {Q : D → Cells → Prop} (h : WE X P o δ M fun x M1 => (∃ ds, LV M1 x ds) ∧ WA X P [e] δ M1 fun ys M2 => ∃ (bs : List Bool) (j : Nat), ys = [.bl true] ∧ LV M2 x (bs.map D.bl) ∧ bs[j]? = some true ∧ (∀ m, m < j → bs[m]? = some false) ∧ Q (.int (j : Nat)) M2)
    (hbase : attributeBase o "index" X.env (eval o X.env) = eval o X.env := by rfl)
    (hfew : ((backTo cpos (starEach [e] X.env)).all (fun x => !x.1) && (backToKw cpos (keywordEach [] X.env)).all (fun x => x.1.isSome)
      && decide (([e] : List Expr).length + ([] : List Keyword).length + (if ([] : List Keyword).isEmpty then 0 else 1) < 30)) = true := by rfl)
    (hline : (apos.endLine == cpos.line) = true := by rfl) (hs : starEach [e] X.env = (false, eval e X.env) :: starEach [] X.env := by rfl) (hplain : (backTo cpos (starEach [] X.env)).any (·.1) = false := by rfl) :
    WE X P (.Call (.Attribute o "index" apos) [e] [] cpos) δ M Q :=
  we_of (pe_bm PySem.F.plainAttrs_list PySem.F.slot_list_index PySem.F.type_list_index mt_index pe_sem pa_sem hbase hfew hline hs hplain) fun σ H F G => h.go G fun v H1 F1 M1 x s1 G1 r1 q1 => by
    obtain ⟨⟨ds0, l0⟩, q1⟩ := q1
    obtain ⟨a, vs0, rfl, e0, _⟩ := G1.st.readL r1 l0
    refine ⟨.inl ⟨rfl, vs0, e0⟩, q1.go G1 fun ws H2 F2 M2 ys s2 G2 r2 q2 => ?_⟩
    obtain ⟨bs, j, rfl, l2, hj, hno, hq⟩ := q2
    obtain ⟨w, rfl, rw'⟩ := r2.one
    cases rw'
    obtain ⟨a', vs, ea, f1, f2⟩ := G2.st.readL (r1.up s2) l2
    cases ea
    rw [f2.bls_inv] at f1
    refine ⟨a, bs.map V.bl, .bl true, j, .bl true, rfl, rfl, f1, rfl, ?_, by rw [List.getElem?_map, hj]; rfl, rfl, fun m z' hm hz' => ?_, ret G2.st (s1.trans s2) (.int _) hq⟩
    · rw [List.all_eq_true]
      intro y hy
      obtain ⟨b, _, rfl⟩ := List.mem_map.mp hy
      rfl
    · rw [List.getElem?_map, hno m hm] at hz'
      cases hz'
      rfl
end
/-- isinstance(e, c), e the exception that the suite holds, with a dict or without one -/
theorem call_isX {X : Cx} {a D : Addr} {oe : Obj} {d : Option Addr} {pn : List (Addr × Obj)} (C : ExcC X.K D) (hz : Zc (.ref D) d oe) (hf : ∃ vs, oe.data = .fields vs) : CallR (X.suite a ((a, oe) :: pn)) (.builtin "isinstance") (fun xs H Q => ∃ (c : V) (cv : Value) (b : Bool), xs = [.ref a, c] ∧ (∀ u, RelV c u → u = cv) ∧ PySem.W.kitOne X.K (.ref D) cv = some b ∧ (∀ dd, d = some dd → ∃ fs, H dd = some (.xd fs)) ∧ Q (.bl b) H) := by
  intro pins s σ H xs us Q I r h
  obtain ⟨c, cv, b, rfl, hcv, e, hdd, q⟩ := h
  cases r with
  | cons rx rr =>
    cases rr with
    | cons rt rr =>
      cases rr
      cases rx
      have ec := hcv _ rt
      subst ec
      obtain ⟨hget, _⟩ := I.pin (a, oe) (List.mem_append.mpr (.inl List.mem_cons_self))
      obtain ⟨vs, hv⟩ := hf
      have hcl : (PySem.W.clsIn X.K D).isSome = true := by
        obtain ⟨cd, hc, _⟩ := PySem.W.any_some C.hd
        rw [hc]; rfl
      have fin : ∀ od, PySem.W.InstAt s.heap a oe D od → wpAny (model X.prog X.w) (X.suite a ((a, oe) :: pn)).A (call (.builtin "isinstance") [.ref a, _]) (EP (X.suite a ((a, oe) :: pn)) pins σ Q) (X.suite a ((a, oe) :: pn)).xe s := fun od J =>
        PySem.W.kia_one (PySem.W.kitx_exc hcl C.hg C.hk C.hs C.ha C.hn C.ht C.hm) I.kIn J e (fun z => nomatch z) fun tk => ⟨.bl b, H, I.kept (t' := tk) fun _ _ z => z, rfl, q⟩
      cases d with
      | none =>
        refine fin none ?_
        obtain ⟨oc, od, oda, osl⟩ := oe
        obtain ⟨h1, h2⟩ := hz
        dsimp only at h1 h2 hv
        subst h1 h2 hv
        exact ⟨hget, rfl, rfl, trivial⟩
      | some dd =>
        obtain ⟨fs, ea⟩ := hdd dd rfl
        have hx : ObjOk X.prog X.w H s.heap dd (.xd fs) := I.hok dd _ ea
        obtain ⟨mA, hns, hr⟩ := hx
        obtain ⟨od, ho, hl⟩ := L2.lookIn_ns hns
        exact fin (some od) ⟨hget, hz.1, by unfold PySem.W.notCls; rw [hv] <;> rfl, by rw [hz.2]; exact ho⟩
/-- what the name of a handler holds -/
def EDat (a : Addr) (od : Option Addr) (d : D) : Prop := (d = .raw (.ref a) ∧ od = none) ∨ ∃ dd fs, d = .exc a dd fs ∧ od = some dd
section
variable {X : Cx} {P : XP} {F : Hp} {M : Cells} {δ : Slots} {σ : L2.St} {H : Hp} {e c : Expr} {pos p : Pos} {E : En}
theorem we_isX {a D : Addr} {oe : Obj} {d : Option Addr} {pn : List (Addr × Obj)} {x : Str} {Q : PW.D → Cells → Prop} (C : ExcC X.K D) (hz : Zc (.ref D) d oe) (hf : ∃ vs, oe.data = .fields vs) (hg : Gl (X.suite a ((a, oe) :: pn)) x) (hm : X.mg x = none) (hv : bootBuiltins x = some (.builtin "isinstance"))
    (h : WA (X.suite a ((a, oe) :: pn)) P [e, c] δ M fun ds M1 => ∃ (z : PW.D) (Cc : Addr) (b : Bool), ds = [z, .raw (.ref Cc)] ∧ EDat a d z ∧ PySem.W.kitOne X.K (.ref D) (.ref Cc) = some b ∧ Q (.bl b) M1) (hn : x ≠ "__name__" := by decide) (hdb : (x == ("__debug__" : Str)) = false := by decide)
    (he : starEach [e, c] X.env = (false, eval e X.env) :: starEach [c] X.env := by rfl) (hpl : (backTo pos (starEach [c] X.env)).any (·.1) = false := by rfl) : WE (X.suite a ((a, oe) :: pn)) P (.Call (.Name x p) [e, c] [] pos) δ M Q :=
  we_callB (X := X.suite a ((a, oe) :: pn)) (R := fun ds M1 Q => ∃ (z : PW.D) (Cc : Addr) (b : Bool), ds = [z, .raw (.ref Cc)] ∧ EDat a d z ∧ PySem.W.kitOne X.K (.ref D) (.ref Cc) = some b ∧ Q (.bl b) M1) (call_isX C hz hf) (fun k s S r h => by
    obtain ⟨z, Cc, b, rfl, hz, hk, q⟩ := h
    obtain ⟨v, w, rfl, r1, r2⟩ := r.two
    cases r2
    rcases hz with ⟨rfl, rfl⟩ | ⟨dd, fs, rfl, rfl⟩
    · cases r1
      exact ⟨.ref Cc, .ref Cc, b, rfl, fun u hu => hu, hk, (fun _ z => nomatch z), k _ _ (ret S s (.bl b) q)⟩
    · cases r1 with
      | exc _ _ _ hF => exact ⟨.ref Cc, .ref Cc, b, rfl, fun u hu => hu, hk, (fun _ z => by cases z; exact ⟨_, S.le _ _ hF⟩), k _ _ (ret S s (.bl b) q)⟩) hg hm hv h hn hdb he hpl
end
end PW
/-! PWOd -/
namespace PW
open PySem L2 PyProof.Rows
/-- a class whose calls without arguments make an instance -/
structure FMk (P : Program) (w : World) (K : PySem.W.Frag) (mg : Str → Option Value) (base : Heap) (k : Nat) (x : Str) (C : Addr) (T : TSp) : Prop where
  mono : Mono T
  g : mg x = some (.ref C)
  ex : ∃ f fd ps, Mk K C f ∧ Binds K fd ps [] ∧ FnOk P w K mg base (L2.CX P w) k f fd ps (spG K T)
section
variable {X : Cx} {P : XP} {F : Hp} {M : Cells} {δ : Slots} {σ : L2.St} {H : Hp} {a b e o v c : Expr} {es : List Expr} {pos apos pos' cpos p : Pos} {E : En}
theorem we_mk {x : Str} {C : Addr} {k : Nat} {T : TSp} {Q : D → Cells → Prop} (m : FMk X.prog X.w X.K X.mg X.base k x C T) (hr : Room (k + 1) X.A) (hg : Gl X x) (h : ∀ a dx : Addr, T [.cel a] ((a, Cell.ins C dx []) :: M) (fun d M' => d = .non ∧ Q (.cel a) M') fun _ _ => False) (hdb : (x == ("__debug__" : Str)) = false := by decide) : WE X P (.Call (.Name x p) [] [] pos) δ M Q :=
  let ⟨_, _, _, mk, hb, Fo⟩ := m.ex
  we_make0 mk Fo m.mono hr hg m.g hb h hdb
end
end PW
/-! PWOe -/
namespace PW
open PySem PySem.Spec L2 PyProof.Rows
def wTwo2 (K : PySem.W.Frag) (ca cb : Value) (i : Nat) (ta tc : Addr → Value → Option Addr → TS) (D : L2.Ends) : WX := fun cls dd τ G =>
  (PySem.W.exmOne K cls ca = some true ∧ ∀ e, G e = none → ta e cls dd (endsAs i D) (τ.set i (some (.ref e))) G) ∨
  (PySem.W.exmOne K cls ca = some false ∧ PySem.W.exmOne K cls cb = some true ∧ ∀ e, G e = none → tc e cls dd (endsAs i D) (τ.set i (some (.ref e))) G)
section
variable {X : Cx} {xa xb n : Str} {ca cb : Value} {i : Nat} {body sa sb : List Stmt} {a₀ b₀ : Stmt} {na nb pa pb pos : Pos} {tb : WX → TS} {ta tc : Addr → Value → Option Addr → TS}
theorem ps_try_two2 (stk : X.stack = X.env :: X.outer) (frm : X.env.frame = some X.env.locals) (nod : X.N.Nodup) (at_ : X.N[i]? = some n) (lcl : X.env.kindOf n = some .local) (ha : Names X xa ca) (hb : Names X xb cb)
    (Bd : ∀ (W : WX) (pn : List (Addr × Obj)) (xe : Value → Shared → Prop), Takes (X.tr pn xe) W → PassesOwn (model X.prog X.w) X.A X.env xe → PSs (X.tr pn xe) body (tb W))
    (Sa : ∀ (e : Addr) (ob : Obj) (cls : Value) (dd : Option Addr) (pn : List (Addr × Obj)), Zc cls dd ob → (∃ vs, ob.data = .fields vs) → PSs (X.suite e ((e, ob) :: pn)) (a₀ :: sa) (ta e cls dd))
    (Sb : ∀ (e : Addr) (ob : Obj) (cls : Value) (dd : Option Addr) (pn : List (Addr × Obj)), Zc cls dd ob → (∃ vs, ob.data = .fields vs) → PSs (X.suite e ((e, ob) :: pn)) (b₀ :: sb) (tc e cls dd)) :
    PS X (.Try body [.ExceptHandler (some (.Name xa na)) (some n) (a₀ :: sa) pa, .ExceptHandler (some (.Name xb nb)) (some n) (b₀ :: sb) pb] [] [] pos) (fun D σ H => tb (wTwo2 X.K ca cb i ta tc D) D σ H) := by
  refine ⟨fun pins s σ H D I w => ?_⟩
  have okX := I.ok
  have frames : X.A.frames = some (X.env :: X.outer) := okX.frames.trans (congrArg some stk)
  refine wpAny_Try_except ?_
  refine wpAny_mono ((Bd (wTwo2 X.K ca cb i ta tc D) (X.pn ++ pins) (fun er z1 => wpAny (model X.prog X.w) X.A (noteFrame er X.env) (fun _ z2 => wpAny (model X.prog X.w) X.A (setFlight er none) (fun _ z3 =>
    wpAny (model X.prog X.w) X.A (handleBy er X.env [.ExceptHandler (some (.Name xa na)) (some n) (a₀ :: sa) pa, .ExceptHandler (some (.Name xb nb)) (some n) (b₀ :: sb) pb]) (SP X pins D) X.xe z3) X.xe z2) X.xe z1) (fun u z xx => ?_) PassesOwn.looking).run [] s σ H D (I.toTry _) w) (fun fl z hsp => ?_) (fun _ _ q => q)
  · obtain ⟨e, B, zI, pins', τ, G, cls, dd, rfl, JT, nb', up, sky, ne, os, ag, w2⟩ := xx
    have J := JT.ofTry okX
    have sky2 : Sky B (X.env :: X.outer) e (Zc cls dd) X.env.locals z.heap := stk ▸ sky
    show wpAny (model X.prog X.w) X.A (noteFrame (.ref e) X.env) _ _ _
    refine Sky.land Zc.steady frames frm sky2 fun hp1 fly1 up1 => ?_
    have J1 : Inv X pins τ G { z with heap := hp1 } := J.landed nb' fly1.1 (up.trans up1) os ag
    obtain ⟨ob1, vs1, get1, zc1, dat1⟩ := fly1.there
    have off : e ∉ frs (X.env :: X.outer) := fun hm => by
      obtain ⟨_, o', e', hnf⟩ := fly1.2.2.1.mem hm
      rw [get1] at e'
      cases e'
      exact hnf _ dat1
    have offL : e ≠ X.env.locals := fun q => off (List.mem_filterMap.mpr ⟨X.env, List.mem_cons_self, frm.trans (congrArg some q.symm)⟩)
    have offF : e ∉ X.fs := fun hm => by
      obtain ⟨v, hv, q⟩ := List.mem_filterMap.mp hm
      exact off (List.mem_filterMap.mpr ⟨v, List.mem_cons_of_mem _ hv, q⟩)
    have T1 := J1.suite get1 dat1 ne offL offF
    have looks : PySem.W.Looks (model X.prog X.w) hp1 (typeOf (.ref e)) cls := fun A Q E s k q => wpAny_typeOf_ref (k _ _ get1) (by rw [zc1.1]; exact q)
    have meets : ∀ {x : Str} {c : Value} {q : Pos}, Names X x c → ∀ {Q : Value → Shared → Prop} {E : Value → Shared → Prop}, Q c { z with heap := hp1 } → wpAny (model X.prog X.w) (X.A.mark (some (.ref e))) (eval (.Name x q) X.env) Q E { z with heap := hp1 } := fun {x c q} hc {Q E} go => by
      obtain ⟨g, d, m | ⟨m, v, k⟩⟩ := hc
      · exact ld_glob (X := X.suite e ((e, ob1) :: (X.pn ++ pins))) T1 g m go d
      · exact ld_blt (X := X.suite e ((e, ob1) :: (X.pn ++ pins))) T1 g m v go k d
    refine wpAny_handleBy_cons (codeAny_handlers_test ?_) (by intro q; cases q)
    rcases w2 with ⟨is1, go1⟩ | ⟨not1, is2, go2⟩
    · refine meets ha ((PySem.W.exm_one (M := model X.prog X.w) J1.kIn looks is1).here ?_)
      refine codeAny_handlers_suite_as ?_
      refine HandSPX.lands_againZ fly1 fun hp2 fly2 up2 => ?_
      have J2 : Inv X pins τ G { z with heap := hp2 } := J.landed nb' fly2.1 ((up.trans up1).trans up2) os ag
      obtain ⟨ob2, vs2, get2, zc2, dat2⟩ := fly2.there
      have T2 := J2.suite get2 dat2 ne offL offF
      refine store_ok (X := X.suite e ((e, ob2) :: (X.pn ++ pins))) (v := .ref e) T2 nod at_ (.inl lcl) rfl (fun z5 T5 => ?_) (.inr lcl)
      refine wpAny_mono ((Sa e ob2 cls dd (X.pn ++ pins) zc2 ⟨_, dat2⟩).run [] z5 _ G _ T5 (go1 e ne)) (fun fl z6 hsp => ?_) (fun _ _ q => q.elim)
      cases fl with
      | next => obtain ⟨τ6, G6, T6, q6⟩ := hsp; exact gone_ok (T6.unsuite okX) nod at_ lcl fun z7 J7 => ⟨_, _, J7, q6⟩
      | brk => obtain ⟨τ6, G6, T6, q6⟩ := hsp; exact gone_ok (T6.unsuite okX) nod at_ lcl fun z7 J7 => ⟨_, _, J7, q6⟩
      | cont => obtain ⟨τ6, G6, T6, q6⟩ := hsp; exact gone_ok (T6.unsuite okX) nod at_ lcl fun z7 J7 => ⟨_, _, J7, q6⟩
      | ret v => obtain ⟨v6, τ6, G6, T6, r6, q6⟩ := hsp; exact gone_ok (T6.unsuite okX) nod at_ lcl fun z7 J7 => ⟨_, _, _, J7, r6, q6⟩
    · refine meets ha ((PySem.W.exm_one (M := model X.prog X.w) J1.kIn looks not1).here ?_)
      show wpAny _ X.A (handleBy (.ref e) X.env [.ExceptHandler (some (.Name xb nb)) (some n) (b₀ :: sb) pb]) _ _ _
      refine wpAny_handleBy_cons (codeAny_handlers_test ?_) (by intro q; cases q)
      refine meets hb ((PySem.W.exm_one (M := model X.prog X.w) J1.kIn looks is2).here ?_)
      refine codeAny_handlers_suite_as ?_
      refine HandSPX.lands_againZ fly1 fun hp2 fly2 up2 => ?_
      have J2 : Inv X pins τ G { z with heap := hp2 } := J.landed nb' fly2.1 ((up.trans up1).trans up2) os ag
      obtain ⟨ob2, vs2, get2, zc2, dat2⟩ := fly2.there
      have T2 := J2.suite get2 dat2 ne offL offF
      refine store_ok (X := X.suite e ((e, ob2) :: (X.pn ++ pins))) (v := .ref e) T2 nod at_ (.inl lcl) rfl (fun z5 T5 => ?_) (.inr lcl)
      refine wpAny_mono ((Sb e ob2 cls dd (X.pn ++ pins) zc2 ⟨_, dat2⟩).run [] z5 _ G _ T5 (go2 e ne)) (fun fl z6 hsp => ?_) (fun _ _ q => q.elim)
      cases fl with
      | next => obtain ⟨τ6, G6, T6, q6⟩ := hsp; exact gone_ok (T6.unsuite okX) nod at_ lcl fun z7 J7 => ⟨_, _, J7, q6⟩
      | brk => obtain ⟨τ6, G6, T6, q6⟩ := hsp; exact gone_ok (T6.unsuite okX) nod at_ lcl fun z7 J7 => ⟨_, _, J7, q6⟩
      | cont => obtain ⟨τ6, G6, T6, q6⟩ := hsp; exact gone_ok (T6.unsuite okX) nod at_ lcl fun z7 J7 => ⟨_, _, J7, q6⟩
      | ret v => obtain ⟨v6, τ6, G6, T6, r6, q6⟩ := hsp; exact gone_ok (T6.unsuite okX) nod at_ lcl fun z7 J7 => ⟨_, _, _, J7, r6, q6⟩
  · cases fl with
    | next => obtain ⟨τ, G, J, q⟩ := hsp; exact wpAny_execs_nil ⟨τ, G, J.ofTry okX, q⟩
    | brk => obtain ⟨τ, G, J, q⟩ := hsp; exact ⟨τ, G, J.ofTry okX, q⟩
    | cont => obtain ⟨τ, G, J, q⟩ := hsp; exact ⟨τ, G, J.ofTry okX, q⟩
    | ret u => obtain ⟨v, τ, G, J, r, q⟩ := hsp; exact ⟨v, τ, G, J.ofTry okX, r, q⟩
end
end PW
namespace PW
open PySem L2 PyProof.Rows
section
variable {X : Cx} {P : XP} {F : Hp} {M : Cells} {δ : Slots} {σ : L2.St} {H : Hp} {E : En}
theorem ws_tryTwo2 {xa xb n : Str} {ca cb : Value} {i : Nat} {na nb pa pb pos : Pos} {body sa sb : List Stmt} {a₀ b₀ : Stmt} (P' : XP) (N : Nice X) (hs : X.stack = X.env :: X.outer) (hf : X.env.frame = some X.env.locals) (hi : X.N[i]? = some n) (hln : X.env.kindOf n = some .local) (hca : Names X xa ca) (hcb : Names X xb cb)
    (hb : ∀ pn xe, Nice (X.tr pn xe) → WB (X.tr pn xe) P' body δ M E)
    (hx : ∀ ex δ' M', P' ex δ' M' →
      (PySem.W.exmOne X.K (.ref ex.cls) ca = some true ∧ ∃ fs : List (Str × Int), ex.fs = fsD fs ∧ fs ≠ [] ∧ ∀ a dd oe pn, Zc (.ref ex.cls) (some dd) oe → (∃ vs, oe.data = .fields vs) → WB (X.suite a ((a, oe) :: pn)) PX0 (a₀ :: sa) (δ'.set i (some (.exc a dd fs))) M' (EnAs i E)) ∨
      (PySem.W.exmOne X.K (.ref ex.cls) ca = some false ∧ PySem.W.exmOne X.K (.ref ex.cls) cb = some true ∧ (ex.fs = [] ∨ ∃ fs : List (Str × Int), ex.fs = fsD fs ∧ fs ≠ []) ∧ ∀ a od oe pn d, EDat a od d → Zc (.ref ex.cls) od oe → (∃ vs, oe.data = .fields vs) →
        WB (X.suite a ((a, oe) :: pn)) PX0 (b₀ :: sb) (δ'.set i (some d)) M' (EnAs i E))) :
    WS X P (.Try body [.ExceptHandler (some (.Name xa na)) (some n) (a₀ :: sa) pa, .ExceptHandler (some (.Name xb nb)) (some n) (b₀ :: sb) pb] [] [] pos) δ M E := by
  intro σ H F G pins s I
  have rule := ps_try_two2 (X := X) (body := body) (sa := sa) (a₀ := a₀) (sb := sb) (b₀ := b₀) (na := na) (nb := nb) (pos := pos) (pa := pa) (pb := pb) (i := i)
    (tb := fun W D σ H => ∀ pn xe, Takes (X.tr pn xe) W → PassesOwn (model X.prog X.w) X.A X.env xe → tB (X.tr pn xe) body D σ H)
    (ta := fun a cls d D σ H => ∀ oe pn, Zc cls d oe → (∃ vs, oe.data = .fields vs) → tB (X.suite a ((a, oe) :: pn)) (a₀ :: sa) D σ H)
    (tc := fun a cls d D σ H => ∀ oe pn, Zc cls d oe → (∃ vs, oe.data = .fields vs) → tB (X.suite a ((a, oe) :: pn)) (b₀ :: sb) D σ H)
    hs hf N.nd hi hln hca hcb (fun W pn xe t p => ⟨fun pins s σ H D I h => h pn xe t p pins s I⟩) (fun a oe cls d pn z v => ⟨fun pins s σ H D I h => h oe pn z v pins s I⟩) (fun a oe cls d pn z v => ⟨fun pins s σ H D I h => h oe pn z v pins s I⟩)
  refine rule.run pins s σ H _ I fun pn xe t p => ?_
  refine hb pn xe ⟨N.calm, N.nd, p⟩ σ H F ⟨G.st, ⟨_, t, ?_⟩⟩
  rintro cls d σ' H' ⟨F', M', δ', ex, s1, S1, ⟨ec, ed⟩, q⟩
  subst ec
  rcases hx ex δ' M' q with ⟨e1, fs, ef, en, go⟩ | ⟨e1, e2, ef, go⟩
  · refine .inl ⟨e1, fun a na oe pn z v => ?_⟩
    rcases ed with ⟨z1, _⟩ | ⟨dd, vs, rfl, hdd, hfs⟩
    · rw [ef] at z1
      exact absurd (List.map_eq_nil_iff.mp z1) en
    · obtain ⟨F2, s2, S2, hF2⟩ := S1.pin hdd
      rw [ef] at hfs
      rw [fs_inv hfs] at hF2
      exact (go a dd oe _ z v _ H' F2 ⟨S2.setSlot (i := i) (Rep.exc (K := X.K) a dd fs hF2), TakesP.none⟩).mono (upEn_as (s1.trans s2))
  · refine .inr ⟨e1, e2, fun a na oe pn z v => ?_⟩
    rcases ed with ⟨z1, rfl⟩ | ⟨dd, vs, rfl, hdd, hfs⟩
    · exact (go a none oe _ _ (.inl ⟨rfl, rfl⟩) z v _ H' F' ⟨S1.setSlot (i := i) (Rep.raw (K := X.K) (.ref a)), TakesP.none⟩).mono (upEn_as s1)
    · rcases ef with ef | ⟨fs, ef, en⟩
      · obtain ⟨F2, s2, S2, hF2⟩ := S1.pin hdd
        rw [ef] at hfs
        cases hfs
        exact (go a (some dd) oe _ _ (.inr ⟨dd, [], rfl, rfl⟩) z v _ H' F2 ⟨S2.setSlot (i := i) (Rep.exc (K := X.K) a dd [] hF2), TakesP.none⟩).mono (upEn_as (s1.trans s2))
      · obtain ⟨F2, s2, S2, hF2⟩ := S1.pin hdd
        rw [ef] at hfs
        rw [fs_inv hfs] at hF2
        exact (go a (some dd) oe _ _ (.inr ⟨dd, fs, rfl, rfl⟩) z v _ H' F2 ⟨S2.setSlot (i := i) (Rep.exc (K := X.K) a dd fs hF2), TakesP.none⟩).mono (upEn_as (s1.trans s2))
end
section
variable {X : Cx} {E : L2.St → XK} {g e : Expr} {es : List Expr} {pos : Pos} {tg : TE} {t : TA}
theorem pe_callE (hg : PE X g tg) (ha : PA X (e :: es) t) (hx : ∀ σ, PassesAt (L2.CX X.prog X.w) X σ (E σ)) (he : starEach (e :: es) X.env = (false, eval e X.env) :: starEach es X.env := by rfl) (hpl : (backTo pos (starEach es X.env)).any (·.1) = false := by rfl)
    (hc : eval (.Call g (e :: es) [] pos) X.env = (do callWith pos (← eval g X.env) [] (backTo pos (starEach (e :: es) X.env)) (backToKw pos (keywordEach [] X.env))) := by rfl) :
    PE X (.Call g (e :: es) [] pos) (fun σ H Q => tg σ H fun v H1 => ∃ (f : Addr) (fd : FuncData) (ps : List Str) (k : Nat) (sp : Sp), v = .ref f ∧ FnOk X.prog X.w X.K X.mg X.base (L2.CX X.prog X.w) k f fd ps sp ∧ Room k X.A ∧ PySem.W.keepIn X.K (.ref f) = true ∧ Binds X.K fd ps [] ∧ t σ H1 fun vs H2 => sp vs H2 Q (E σ)) := by
  refine ⟨fun pins s σ H Q I h => ?_⟩
  rw [hc]
  refine wpAny_bind (thn (hg.run pins s σ H _ I h) fun u s1 ⟨v, H1, I1, rv, f, fd, ps, k, sp, ev, Fo, hr, hk, hb, q⟩ => ?_)
  subst ev
  obtain rfl : u = Value.ref f := rv
  refine PySem.W.callWith_K (h₀ := X.base) I1.ok.mod.kin hk (thn (ha.run pos pins s1 σ H1 _ I1 q) fun us s2 ⟨vs, H2, I2, r, q2⟩ => ⟨I2.kIn, ?_⟩) he hpl
  exact run_fnS Fo hr hb (hx σ) I2 r q2
end
section
variable {X : Cx} {P : XP} {F : Hp} {M : Cells} {δ : Slots} {σ : L2.St} {H : Hp} {g e : Expr} {es : List Expr} {pos : Pos}
/-- g(e, ..), g an expression that tells a def -/
theorem we_callE {Q : D → Cells → Prop} (h : WE X P g δ M fun d M0 => ∃ (x : Str) (f : Addr) (k n : Nat) (T : TSp), d = .raw (.ref f) ∧ X.mg x = some (.ref f) ∧ FD X.prog X.w X.K X.mg X.base k x n T ∧ Room k X.A ∧ WA X P (e :: es) δ M0 fun ds M1 => T ds M1 Q (fun x M' => P x δ M'))
    (he : starEach (e :: es) X.env = (false, eval e X.env) :: starEach es X.env := by rfl) (hpl : (backTo pos (starEach es X.env)).any (·.1) = false := by rfl)
    (hc : eval (.Call g (e :: es) [] pos) X.env = (do callWith pos (← eval g X.env) [] (backTo pos (starEach (e :: es) X.env)) (backToKw pos (keywordEach [] X.env))) := by rfl) : WE X P (.Call g (e :: es) [] pos) δ M Q := by
  intro σ H F G
  obtain ⟨W, tw, hw⟩ := G.tk
  intro pins s I
  refine (pe_callE (E := fun σ cls d H => W cls d σ H) pe_sem pa_sem (fun σ => passAt tw σ) he hpl hc).run pins s σ H _ I ?_
  refine h.go G fun v H0 F0 M0 d s0 G0 r0 q0 => ?_
  obtain ⟨x, f, k, n, T, rfl, hm, c, hr, q⟩ := q0
  cases r0
  obtain ⟨f', fd, ps, hm', hk, hn, hb, Fo⟩ := c.ex
  rw [hm] at hm'
  cases hm'
  refine ⟨f, fd, ps, k, _, rfl, Fo, hr, hk, hb, q.go G0 fun vs H1 F1 M1 ds s1 G1 r1 q1 => ⟨F1, M1, ds, G1.st.bare, r1, c.mono _ _ _ _ _ _ (fun d M' q v F' H' s' S' r' => ?_) (fun y M' q cls d F' H' s' S' hx => ?_) q1⟩⟩
  · exact ret (S'.keep G1.st s') ((s0.trans s1).trans s') r' q
  · exact hw cls d σ H' ⟨F', M', δ, y, (s0.trans s1).trans s', S'.keep G1.st s', hx, q⟩
end
theorem fn_or {P : Program} {w : World} {K : PySem.W.Frag} {mg : Str → Option Value} {base : Heap} {k : Nat} {f : Addr} {fd : FuncData} {ps : List Str} {T1 T2 T : TSp} (F1 : FnOk P w K mg base (L2.CX P w) k f fd ps (spG K T1)) (F2 : FnOk P w K mg base (L2.CX P w) k f fd ps (spG K T2))
    (h : ∀ ds M Q E, T ds M Q E → T1 ds M Q E ∨ T2 ds M Q E) : FnOk P w K mg base (L2.CX P w) k f fd ps (spG K T) := by
  refine ⟨fun vs H Q E ⟨F, M, ds, S, r, t⟩ => ?_, fun A outer s H args us vs Q E hr he hb hv ⟨F, M, ds, S, r, t⟩ => ?_⟩
  · rcases h _ _ _ _ t with t | t
    · exact F1.len vs H Q E ⟨F, M, ds, S, r, t⟩
    · exact F2.len vs H Q E ⟨F, M, ds, S, r, t⟩
  · rcases h _ _ _ _ t with t | t
    · exact F1.run A outer s H args us vs Q E hr he hb hv ⟨F, M, ds, S, r, t⟩
    · exact F2.run A outer s H args us vs Q E hr he hb hv ⟨F, M, ds, S, r, t⟩
end PW
namespace PW
open PySem L2 PyProof.Rows
local macro_rules
  | `(tactic| walk_at "lk") => `(tactic| first | assumption | exact set_get (by assumption))
  | `(tactic| walk_at "lv") => `(tactic| first | exact LV.l | exact LV.c 0 rfl | exact LV.c 1 rfl | exact LV.c 2 rfl | exact LV.c _ (by walk_at "lk"))
  | `(tactic| walk_at "cl") => `(tactic| first | refine cl_set (by assumption) ?_ | refine cl_0 ?_ | (refine cl_skip ?_; walk_at "cl") | refine cl_k (by assumption) ?_)
  | `(tactic| walk_at "r") => `(tactic| first | assumption | exact room_le (by assumption) (by decide))
  | `(tactic| walk_at "u") => `(tactic| exact Room.units (by assumption))
  | `(tactic| walk_at "eWEConstant") => `(tactic| first
  | ((with_reducible show WE _ _ (Expr.Constant (Const.int _) _ _) _ _ _); refine we_int ?_)
  | ((with_reducible show WE _ _ (Expr.Constant (Const.str _) _ _) _ _ _); refine we_str ?_)
  | ((with_reducible show WE _ _ (Expr.Constant (Const.bool _) _ _) _ _ _); refine we_bl ?_)
  | ((with_reducible show WE _ _ (Expr.Constant Const.none _ _) _ _ _); refine we_non ?_))
  | `(tactic| walk_at "eWECall") => `(tactic| first
  | ((with_reducible refine gC "len" ?_); refine we_len rfl (by assumption) ?_)
  | ((with_reducible refine gC "int" ?_); refine we_int2 rfl (by assumption) ?_)
  | ((with_reducible refine gC "abs" ?_); refine we_abs rfl (by assumption) ?_)
  | ((with_reducible refine gC "max" ?_); refine we_max2 rfl rfl (by assumption) ?_)
  | ((with_reducible refine gC "min" ?_); refine we_min2 rfl rfl (by assumption) ?_)
  | ((with_reducible refine gC "isinstance" ?_); refine we_isi rfl (by assumption) ?_)
  | ((with_reducible refine gC "str" ?_); refine we_str1 rfl (by assumption) ?_)
  | ((with_reducible refine gC "list" ?_); refine we_list rfl (by assumption) ?_)
  | ((with_reducible refine gC "all" ?_); refine we_all rfl rfl (by assumption) ?_)
  | ((with_reducible refine gC "any" ?_); refine we_any rfl rfl (by assumption) ?_)
  | ((with_reducible refine gC "sum" ?_); refine we_sum rfl rfl (by assumption) ?_)
  | ((with_reducible show WE _ _ (Expr.Call (Expr.Name "sorted" _) [Expr.Call (Expr.Name "set" _) _ _ _] _ _) _ _ _); refine we_sortedSet rfl rfl (by assumption) rfl (by assumption) ?_)
  | ((with_reducible show WE _ _ (Expr.Call (Expr.Attribute _ "bit_length" _) _ _ _) _ _ _); refine we_bits ?_)
  | ((with_reducible show WE _ _ (Expr.Call (Expr.Attribute _ "join" _) _ _ _) _ _ _); refine we_join ?_)
  | ((with_reducible show WE _ _ (Expr.Call (Expr.Attribute _ "split" _) _ _ _) _ _ _); refine we_split ?_)
  | ((with_reducible show WE _ _ (Expr.Call (Expr.Attribute _ "append" _) _ _ _) _ _ _); refine we_append ?_)
  | ((with_reducible show WE _ _ (Expr.Call (Expr.Name _ _) _ _ _) _ _ _); walk_at "c"))
  | `(tactic| walk_at "eWECompare") => `(tactic| first
  | ((with_reducible show WE _ _ (Expr.Compare _ [CmpOp.Eq] _ _) _ _ _); refine we_eq (by walk_at "u") ?_)
  | ((with_reducible show WE _ _ (Expr.Compare _ [CmpOp.NotEq] _ _) _ _ _); refine we_ne (by walk_at "u") ?_)
  | ((with_reducible show WE _ _ (Expr.Compare _ [CmpOp.In] _ _) _ _ _); refine we_in ?_)
  | ((with_reducible show WE _ _ (Expr.Compare _ [CmpOp.NotIn] _ _) _ _ _); refine we_notIn ?_)
  | ((with_reducible show WE _ _ (Expr.Compare _ [CmpOp.Lt] _ _) _ _ _); refine we_lt ?_)
  | ((with_reducible show WE _ _ (Expr.Compare _ [CmpOp.LtE] _ _) _ _ _); refine we_le ?_)
  | ((with_reducible show WE _ _ (Expr.Compare _ [CmpOp.Gt] _ _) _ _ _); refine we_gt ?_)
  | ((with_reducible show WE _ _ (Expr.Compare _ [CmpOp.GtE] _ _) _ _ _); refine we_ge ?_)
  | ((with_reducible show WE _ _ (Expr.Compare _ [CmpOp.Is] [Expr.Constant Const.none _ _] _) _ _ _); refine we_isN ?_)
  | ((with_reducible show WE _ _ (Expr.Compare _ [CmpOp.IsNot] [Expr.Constant Const.none _ _] _) _ _ _); refine we_notN ?_)
  | ((with_reducible show WE _ _ (Expr.Compare _ [CmpOp.LtE, CmpOp.LtE] _ _) _ _ _); refine we_lele ?_))
  | `(tactic| walk_at "eWTCompare") => `(tactic| first
  | ((with_reducible show WT _ _ (Expr.Compare _ [CmpOp.In] _ _) _ _ _); refine wt_in ?_)
  | ((with_reducible show WT _ _ (Expr.Compare _ [CmpOp.NotIn] _ _) _ _ _); refine wt_notIn ?_)
  | ((with_reducible show WT _ _ (Expr.Compare _ [CmpOp.LtE, CmpOp.LtE] _ _) _ _ _); refine wt_lele ?_)
  | ((with_reducible show WT _ _ (Expr.Compare _ [CmpOp.LtE, CmpOp.Lt] _ _) _ _ _); refine wt_lelt ?_)
  | ((with_reducible show WT _ _ (Expr.Compare _ [CmpOp.Lt] _ _) _ _ _); refine wt_lt ?_)
  | ((with_reducible show WT _ _ (Expr.Compare _ [CmpOp.LtE] _ _) _ _ _); refine wt_le ?_)
  | ((with_reducible show WT _ _ (Expr.Compare _ [CmpOp.Gt] _ _) _ _ _); refine wt_gt ?_)
  | ((with_reducible show WT _ _ (Expr.Compare _ [CmpOp.GtE] _ _) _ _ _); refine wt_ge ?_)
  | ((with_reducible show WT _ _ (Expr.Compare _ [CmpOp.Eq] _ _) _ _ _); refine wt_eq (by walk_at "u") ?_)
  | ((with_reducible show WT _ _ (Expr.Compare _ [CmpOp.NotEq] _ _) _ _ _); refine wt_ne (by walk_at "u") ?_)
  | ((with_reducible show WT _ _ (Expr.Compare _ [CmpOp.Is] [Expr.Constant Const.none _ _] _) _ _ _); refine wt_isN ?_)
  | ((with_reducible show WT _ _ (Expr.Compare _ [CmpOp.IsNot] [Expr.Constant Const.none _ _] _) _ _ _); refine wt_notN ?_))
  | `(tactic| walk_at "eWK") => `(tactic| first
  | ((with_reducible show WK _ _ [] _ _ _); refine wk_nil ?_)
  | ((with_reducible show WK _ _ (_ :: _) _ _ _); refine wk_cons ?_))
  | `(tactic| walk_at "eWEBinOp") => `(tactic| first
  | ((with_reducible show WE _ _ (Expr.BinOp _ Operator.Sub _ _) _ _ _); refine we_sub ?_)
  | ((with_reducible show WE _ _ (Expr.BinOp _ Operator.Add _ _) _ _ _); refine we_add ?_)
  | ((with_reducible show WE _ _ (Expr.BinOp _ Operator.Mult _ _) _ _ _); refine we_mul ?_)
  | ((with_reducible show WE _ _ (Expr.BinOp _ Operator.Mod _ _) _ _ _); refine we_mod ?_)
  | ((with_reducible show WE _ _ (Expr.BinOp _ Operator.FloorDiv _ _) _ _ _); refine we_fdiv ?_)
  | ((with_reducible show WE _ _ (Expr.BinOp _ Operator.Pow _ _) _ _ _); refine we_pow ?_))
  | `(tactic| walk_at "eWEUnaryOp") => `(tactic| first
  | ((with_reducible show WE _ _ (Expr.UnaryOp UnaryOp.USub _ _) _ _ _); refine we_neg ?_)
  | ((with_reducible show WE _ _ (Expr.UnaryOp UnaryOp.Not _ _) _ _ _); refine we_not ?_))
  | `(tactic| walk_at "eWESubscript") => `(tactic| first
  | ((with_reducible show WE _ _ (Expr.Subscript _ (Expr.Slice _ _ _ _) _) _ _ _); refine we_sl ?_)
  | ((with_reducible refine gESu ?_); refine we_ix ?_ (fun _ _ => rfl)))
  | `(tactic| walk_at "eWW") => `(tactic| first
  | ((with_reducible show WW _ _ (Expr.BoolOp BoolOp.And [_] _) _ _ _); refine ww_and1 ?_)
  | ((with_reducible show WW _ _ (Expr.BoolOp BoolOp.Or [_] _) _ _ _); refine ww_or1 ?_)
  | ((with_reducible show WW _ _ (Expr.BoolOp BoolOp.And _ _) _ _ _); refine ww_and ?_)
  | ((with_reducible show WW _ _ (Expr.BoolOp BoolOp.Or _ _) _ _ _); refine ww_or ?_))
  | `(tactic| walk_at "eWEBoolOp") => `(tactic| first
  | ((with_reducible show WE _ _ (Expr.BoolOp _ [_] _) _ _ _); refine we_one ?_)
  | ((with_reducible show WE _ _ (Expr.BoolOp BoolOp.And _ _) _ _ _); refine we_and ?_)
  | ((with_reducible show WE _ _ (Expr.BoolOp BoolOp.Or _ _) _ _ _); refine we_or ?_))
  | `(tactic| walk_at "eWA") => `(tactic| first
  | ((with_reducible show WA _ _ [] _ _ _); refine wa_nil ?_)
  | ((with_reducible show WA _ _ (_ :: _) _ _ _); refine wa_cons ?_))
  | `(tactic| walk_at "eWO") => `(tactic| first
  | ((with_reducible show WO _ _ none _ _ _); refine wo_none ?_)
  | ((with_reducible show WO _ _ (some _) _ _ _); refine wo_some ?_))
  | `(tactic| walk_at "eEx") => `(tactic| first
  | ((with_reducible show ∃ i j, D.int _ = D.int i ∧ D.int _ = D.int j ∧ _ ∧ _); refine ⟨_, _, rfl, rfl, ?_, ?_⟩)
  | ((with_reducible show ∃ i j, D.int _ = D.int i ∧ D.int _ = D.int j ∧ _); refine ⟨_, _, rfl, rfl, ?_⟩)
  | ((with_reducible show ∃ z, atI _ _ = some z ∧ _); refine ⟨_, rfl, ?_⟩)
  | ((with_reducible show ∃ j, ixN _ _ = some j ∧ _); refine ⟨_, rfl, ?_⟩)
  | ((with_reducible show ∃ q, D.cel _ = D.cel q ∧ (∃ (k : Nat) (ds : List D), _) ∧ _); refine app0_cl (by walk_at "cl"; trivial) ?_)
  | ((with_reducible show ∃ (y : D) (k : Nat) (ds : List D), [_] = [y] ∧ _ ∧ _ ∧ _); refine app_cl ?_)
  | ((with_reducible show ∃ i, D.int _ = D.int i ∧ _); refine ⟨_, rfl, ?_⟩)
  | ((with_reducible show ∃ i, D.bl _ = D.bl i ∧ _); refine ⟨_, rfl, ?_⟩)
  | ((with_reducible show ∃ ds i z, LV _ _ ds ∧ D.int _ = D.int i ∧ _ ∧ _); refine' ⟨_, _, _, ?lv, rfl, ?ixe, ?_⟩; (case lv => walk_at "lv"); (case ixe => rfl))
  | ((with_reducible show ∃ k q ds z j, D.cel _ = D.cel q ∧ _ ∧ D.int _ = D.int z ∧ _ ∧ _); refine wgs_cl ?_)
  | ((with_reducible show ∃ i, [D.int _] = [D.int i] ∧ _); refine ⟨_, rfl, ?_⟩))
  | `(tactic| walk_at "eREq") => `(tactic| first
  | ((with_reducible show REq false (D.int _) (D.int _) _ _); refine req_i ?_)
  | ((with_reducible show REq true (D.int _) (D.int _) _ _); refine req_iN ?_)
  | ((with_reducible show REq false (D.str _) (D.str _) _ _); refine req_s ?_)
  | ((with_reducible show REq true (D.str _) (D.str _) _ _); refine req_sN ?_)
  | ((with_reducible show REq false (D.bl _) (D.bl _) _ _); refine req_b ?_)
  | ((with_reducible show REq true (D.bl _) (D.bl _) _ _); refine req_bN ?_))
  | `(tactic| walk_at "eRIx") => `(tactic| first
  | ((with_reducible show RIx (D.lst _) (D.int _) _ _); refine rix_l ?_)
  | ((with_reducible show RIx (D.cel _) (D.int _) _ _); refine rix_cl ?_)
  | ((with_reducible show RIx (D.tup _) (D.int _) _ _); refine rix_t ?_))
  | `(tactic| walk_at "eOr") => `(tactic| first
  | ((with_reducible show RIsi [D.int _, D.tup _] _ _ ∨ _); first | refine isi2 (t := "int") (b := true) rfl (by decide) (by decide) (by decide) ?_ | refine isi2 (t := "int") (b := false) rfl (by decide) (by decide) (by decide) ?_)
  | ((with_reducible show RIsi [D.bl _, D.tup _] _ _ ∨ _); first | refine isi2 (t := "bool") (b := true) rfl (by decide) (by decide) (by decide) ?_ | refine isi2 (t := "bool") (b := false) rfl (by decide) (by decide) (by decide) ?_)
  | ((with_reducible show RIsi [D.str _, D.tup _] _ _ ∨ _); first | refine isi2 (t := "str") (b := true) rfl (by decide) (by decide) (by decide) ?_ | refine isi2 (t := "str") (b := false) rfl (by decide) (by decide) (by decide) ?_)
  | ((with_reducible show RIsi [D.tup _, D.tup _] _ _ ∨ _); first | refine isi2 (t := "tuple") (b := true) rfl (by decide) (by decide) (by decide) ?_ | refine isi2 (t := "tuple") (b := false) rfl (by decide) (by decide) (by decide) ?_)
  | ((with_reducible show RIsi [D.lst _, D.tup _] _ _ ∨ _); first | refine isi2 (t := "list") (b := true) rfl (by decide) (by decide) (by decide) ?_ | refine isi2 (t := "list") (b := false) rfl (by decide) (by decide) (by decide) ?_)
  | ((with_reducible show RIsi [D.non, D.tup _] _ _ ∨ _); first | refine isi2 (t := "NoneType") (b := true) rfl (by decide) (by decide) (by decide) ?_ | refine isi2 (t := "NoneType") (b := false) rfl (by decide) (by decide) (by decide) ?_)
  | ((with_reducible show RIsi [D.int _, D.raw _] _ _ ∨ _); first | refine isi1 (t := "int") (b := true) rfl (by decide) (by decide) ?_ | refine isi1 (t := "int") (b := false) rfl (by decide) (by decide) ?_)
  | ((with_reducible show RIsi [D.bl _, D.raw _] _ _ ∨ _); first | refine isi1 (t := "bool") (b := true) rfl (by decide) (by decide) ?_ | refine isi1 (t := "bool") (b := false) rfl (by decide) (by decide) ?_)
  | ((with_reducible show RIsi [D.str _, D.raw _] _ _ ∨ _); first | refine isi1 (t := "str") (b := true) rfl (by decide) (by decide) ?_ | refine isi1 (t := "str") (b := false) rfl (by decide) (by decide) ?_)
  | ((with_reducible show RIsi [D.tup _, D.raw _] _ _ ∨ _); first | refine isi1 (t := "tuple") (b := true) rfl (by decide) (by decide) ?_ | refine isi1 (t := "tuple") (b := false) rfl (by decide) (by decide) ?_)
  | ((with_reducible show RIsi [D.lst _, D.raw _] _ _ ∨ _); first | refine isi1 (t := "list") (b := true) rfl (by decide) (by decide) ?_ | refine isi1 (t := "list") (b := false) rfl (by decide) (by decide) ?_)
  | ((with_reducible show RIsi [D.non, D.raw _] _ _ ∨ _); first | refine isi1 (t := "NoneType") (b := true) rfl (by decide) (by decide) ?_ | refine isi1 (t := "NoneType") (b := false) rfl (by decide) (by decide) ?_)
  | ((with_reducible show (∃ i, [D.int _] = [D.int i] ∧ _) ∨ _); refine .inl ⟨_, rfl, ?_⟩))
  | `(tactic| walk_at "eRAdd") => `(tactic| first
  | ((with_reducible show RAdd (D.str _) (D.str _) _ _); refine .inr (.inl ⟨_, _, rfl, rfl, ?_, ?_⟩))
  | ((with_reducible show RAdd (D.int _) (D.int _) _ _); refine .inl ⟨_, _, rfl, rfl, ?_⟩))
  | `(tactic| walk_at "eRSl") => `(tactic| first
  | ((with_reducible show RSl (D.str _) _ _ _ _); refine .inr ⟨_, rfl, ?_, ?_⟩)
  | ((with_reducible show RSl (D.lst _) _ _ _ _); refine .inl ⟨_, .l, ?_⟩))
  | `(tactic| walk_at "eAnd") => `(tactic| first
  | ((with_reducible show (∀ v, D.int _ ≠ D.raw v) ∧ _); refine nr_int ?_)
  | ((with_reducible show (∀ v, D.non ≠ D.raw v) ∧ _); refine nr_non ?_)
  | ((with_reducible show (∀ v, D.tup _ ≠ D.raw v) ∧ _); refine nr_tup ?_)
  | ((with_reducible show (∀ v, D.cel _ ≠ D.raw v) ∧ _); refine ⟨fun v e => (by cases e), ?_⟩)
  | ((with_reducible show (∀ v, D.lst _ ≠ D.raw v) ∧ _); refine ⟨fun v e => (by cases e), ?_⟩)
  | ((with_reducible show List.length _ ≤ sizeLine ∧ _); refine ⟨Nat.le_of_ble_eq_true rfl, ?_⟩))
  | `(tactic| walk_at "eRLen") => `(tactic| first
  | ((with_reducible show RLen [D.lst _] _ _); refine .inl ⟨_, _, rfl, .l, ?_⟩)
  | ((with_reducible show RLen [D.cel _] _ _); refine rlen_cl ?_)
  | ((with_reducible show RLen [D.str _] _ _); refine .inr (.inr ⟨_, rfl, ?_, ?_⟩))
  | ((with_reducible show RLen [D.tup _] _ _); refine .inr (.inl ⟨_, rfl, ?_⟩)))
  | `(tactic| walk_at "eWE") => `(tactic| first
  | ((with_reducible refine gENm ?_); walk_at "n")
  | ((with_reducible refine gECn ?_); walk_at "eWEConstant")
  | ((with_reducible refine gECl ?_); walk_at "eWECall")
  | ((with_reducible show WE _ _ (Expr.Tuple _ _ _) _ _ _); refine we_tup ?_)
  | ((with_reducible refine gECm ?_); walk_at "eWECompare")
  | ((with_reducible refine gEBi ?_); walk_at "eWEBinOp")
  | ((with_reducible show WE _ _ (Expr.UnaryOp _ _ _) _ _ _); walk_at "eWEUnaryOp")
  | ((with_reducible show WE _ _ (Expr.IfExp _ _ _ _) _ _ _); refine we_if ?_)
  | ((with_reducible refine gESu ?_); walk_at "eWESubscript")
  | ((with_reducible refine gEBo ?_); walk_at "eWEBoolOp")
  | ((with_reducible show WE _ _ (Expr.List [] _) _ _ (fun e M2 => REq _ _ _ _ _)); refine we_lst ?_))
  | `(tactic| walk_at "eWT") => `(tactic| first
  | ((with_reducible refine gTCm ?_); walk_at "eWTCompare")
  | ((with_reducible show WT _ _ (Expr.BoolOp _ _ _) _ _ _); refine ww_wt ?_)
  | ((with_reducible show WT _ _ (Expr.UnaryOp UnaryOp.Not _ _) _ _ _); refine wt_not ?_)
  | ((with_reducible show WT _ _ (Expr.Call _ _ _ _) _ _ _); refine wt_val ?_)
  | ((with_reducible show WT _ _ (Expr.Name _ _) _ _ _); refine wt_val ?_))
  | `(tactic| walk_at "e") => `(tactic| first
  | ((with_reducible show WE _ _ _ _ _ _); walk_at "eWE")
  | ((with_reducible show WA _ _ _ _ _ _); walk_at "eWA")
  | ((with_reducible show Exists _); walk_at "eEx")
  | ((with_reducible show WT _ _ _ _ _ _); walk_at "eWT")
  | ((with_reducible show REq _ _ _ _ _); walk_at "eREq")
  | ((with_reducible show if true = true then _ else _); refine iteT' ?_)
  | ((with_reducible show if false = true then _ else _); refine iteF' ?_)
  | ((with_reducible show WW _ _ _ _ _ _); walk_at "eWW")
  | ((with_reducible show RAdd _ _ _ _); walk_at "eRAdd")
  | ((with_reducible show _ ∧ _); walk_at "eAnd")
  | ((with_reducible show RIx _ _ _ _); walk_at "eRIx")
  | ((with_reducible show CL _ _ _); walk_at "cl")
  | ((with_reducible show _ ∨ _); walk_at "eOr")
  | ((with_reducible show WK _ _ _ _ _ _); walk_at "eWK")
  | ((with_reducible show WO _ _ _ _ _ _); walk_at "eWO")
  | ((with_reducible show RSl _ _ _ _ _); walk_at "eRSl")
  | ((with_reducible show onB _ (D.bl _) _); refine ⟨_, rfl, ?_⟩)
  | ((with_reducible show RLen _ _ _); walk_at "eRLen")
  | ((with_reducible show if isNonD _ = true then _ else _); first | refine iteP rfl ?_ | refine iteQ rfl ?_)
  | ((with_reducible show if (!isNonD _) = true then _ else _); first | refine iteP rfl ?_ | refine iteQ rfl ?_)
  | ((with_reducible show if _ = true then _ else _); first | refine iteP (by decide) ?_ | refine iteQ (by decide) ?_))
  | `(tactic| walk_at "sB") => `(tactic| first
  | ((with_reducible show WB _ _ [_] _ _ _); refine wb_one ?_)
  | ((with_reducible show WB _ _ (_ :: _) _ _ _); refine wb_cons ?_)
  | ((with_reducible show WB _ _ [] _ _ _); refine wb_nil ?_))
  | `(tactic| walk_at "sS") => `(tactic| first
  | ((with_reducible show WS _ _ (Stmt.Assign _ _ _) _ _ _); first
     | ((with_reducible show WS _ _ (Stmt.Assign [Expr.Subscript _ _ _] _ _) _ _ _); refine ws_asg ?_)
     | walk_at "t")
  | ((with_reducible show WS _ _ (Stmt.If _ _ _ _) _ _ _); refine ws_if ?_)
  | ((with_reducible show WS _ _ (Stmt.Return _ _) _ _ _); first
     | ((with_reducible show WS _ _ (Stmt.Return (some _) _) _ _ _); refine ws_ret ?_)
     | ((with_reducible show WS _ _ (Stmt.Return none _) _ _ _); refine ws_retN ?_))
  | ((with_reducible show WS _ _ (Stmt.Expr _ _) _ _ _); refine ws_expr ?_)
  | walk_at "t")
  | `(tactic| walk_at "sG") => `(tactic| first
  | ((with_reducible show WG _ _ (Expr.Tuple _ _ _) (D.tup _) _ _ _); refine wg_tup (by assumption) rfl ?_)
  | ((with_reducible show WG _ _ (Expr.Subscript _ _ _) _ _ _ _); refine wg_sub ?_)
  | walk_at "t")
  | `(tactic| walk_at "s") => `(tactic| first
  | ((with_reducible show WB _ _ _ _ _ _); walk_at "sB")
  | ((with_reducible show WS _ _ _ _ _ _); walk_at "sS")
  | ((with_reducible show WG _ _ _ _ _ _ _); walk_at "sG")
  | ((with_reducible show WGs _ _ [] [] _ _ _); refine wgs_nil ?_)
  | ((with_reducible show WGs _ _ (_ :: _) (_ :: _) _ _ _); refine wgs_cons ?_))
  | `(tactic| walk_at "g") => `(tactic| repeat (first
  | ((with_reducible show WB _ _ _ _ _ _); walk_at "s")
  | ((with_reducible show WS _ _ _ _ _ _); walk_at "s")
  | walk_at "e"
  | walk_at "s"))
/-! BooksA -/
def top (i : Nat) : Stmt := PySem.Challenge.pw_keeprests_k53_errors_of_stands.main.body.getD i (.Pass ⟨0, 0, 0, 0⟩)
abbrev st_Unfit___init__ : Stmt := inClass (top 5) 0
def N_Unfit___init__ : List Str := ["self", "first", "second"]
theorem sc_Unfit___init__ : FnScope N_Unfit___init__ ["self", "first", "second"] (defScope st_Unfit___init__) := ⟨rfl, rfl, rfl, by decide +kernel, rfl, by decide +kernel, by decide +kernel⟩
abbrev st_is_integer : Stmt := top 10
def N_is_integer : List Str := ["thing"]
theorem sc_is_integer : FnScope N_is_integer ["thing"] (defScope st_is_integer) := ⟨rfl, rfl, rfl, by decide +kernel, rfl, by decide +kernel, by decide +kernel⟩
abbrev st_is_told : Stmt := top 11
def N_is_told : List Str := ["thing"]
theorem sc_is_told : FnScope N_is_told ["thing"] (defScope st_is_told) := ⟨rfl, rfl, rfl, by decide +kernel, rfl, by decide +kernel, by decide +kernel⟩
abbrev st_is_item : Stmt := top 12
def N_is_item : List Str := ["thing"]
theorem sc_is_item : FnScope N_is_item ["thing"] (defScope st_is_item) := ⟨rfl, rfl, rfl, by decide +kernel, rfl, by decide +kernel, by decide +kernel⟩
abbrev st_is_book : Stmt := top 13
def N_is_book : List Str := ["thing", "one", "other", "item"]
theorem sc_is_book : FnScope N_is_book ["thing"] (defScope st_is_book) := ⟨rfl, rfl, rfl, by decide +kernel, rfl, by decide +kernel, by decide +kernel⟩
abbrev st_need_book : Stmt := top 14
def N_need_book : List Str := ["book"]
theorem sc_need_book : FnScope N_need_book ["book"] (defScope st_need_book) := ⟨rfl, rfl, rfl, by decide +kernel, rfl, by decide +kernel, by decide +kernel⟩
abbrev st_divides : Stmt := top 15
def N_divides : List Str := ["number", "other"]
theorem sc_divides : FnScope N_divides ["number", "other"] (defScope st_divides) := ⟨rfl, rfl, rfl, by decide +kernel, rfl, by decide +kernel, by decide +kernel⟩
abbrev st_do_fit : Stmt := top 16
def N_do_fit : List Str := ["one", "other"]
theorem sc_do_fit : FnScope N_do_fit ["one", "other"] (defScope st_do_fit) := ⟨rfl, rfl, rfl, by decide +kernel, rfl, by decide +kernel, by decide +kernel⟩
abbrev st_conflicts_in : Stmt := top 17
def N_conflicts_in : List Str := ["book", "found", "first", "one", "second"]
theorem sc_conflicts_in : FnScope N_conflicts_in ["book"] (defScope st_conflicts_in) := ⟨rfl, rfl, rfl, by decide +kernel, rfl, by decide +kernel, by decide +kernel⟩
abbrev st_conflict_in : Stmt := top 18
def N_conflict_in : List Str := ["book", "found"]
theorem sc_conflict_in : FnScope N_conflict_in ["book"] (defScope st_conflict_in) := ⟨rfl, rfl, rfl, by decide +kernel, rfl, by decide +kernel, by decide +kernel⟩
abbrev st_need_fitting : Stmt := top 19
def N_need_fitting : List Str := ["book", "conflict"]
theorem sc_need_fitting : FnScope N_need_fitting ["book"] (defScope st_need_fitting) := ⟨rfl, rfl, rfl, by decide +kernel, rfl, by decide +kernel, by decide +kernel⟩
abbrev st_need_possible : Stmt := top 20
def N_need_possible : List Str := ["book"]
theorem sc_need_possible : FnScope N_need_possible ["book"] (defScope st_need_possible) := ⟨rfl, rfl, rfl, by decide +kernel, rfl, by decide +kernel, by decide +kernel⟩
abbrev st_divisors_in : Stmt := top 23
def N_divisors_in : List Str := ["number", "found", "one"]
theorem sc_divisors_in : FnScope N_divisors_in ["number"] (defScope st_divisors_in) := ⟨rfl, rfl, rfl, by decide +kernel, rfl, by decide +kernel, by decide +kernel⟩
abbrev st_places_by : Stmt := top 24
def N_places_by : List Str := ["items", "value", "rows", "difference", "near", "found", "far", "place", "own", "told"]
theorem sc_places_by : FnScope N_places_by ["items", "value"] (defScope st_places_by) := ⟨rfl, rfl, rfl, by decide +kernel, rfl, by decide +kernel, by decide +kernel⟩
abbrev st_places_for : Stmt := top 25
def N_places_for : List Str := ["book", "value"]
theorem sc_places_for : FnScope N_places_for ["book", "value"] (defScope st_places_for) := ⟨rfl, rfl, rfl, by decide +kernel, rfl, by decide +kernel, by decide +kernel⟩
abbrev st_has_place : Stmt := top 26
def N_has_place : List Str := ["book", "value"]
theorem sc_has_place : FnScope N_has_place ["book", "value"] (defScope st_has_place) := ⟨rfl, rfl, rfl, by decide +kernel, rfl, by decide +kernel, by decide +kernel⟩
abbrev st_nearest_place : Stmt := top 27
def N_nearest_place : List Str := ["book", "value", "place", "places", "rows", "one"]
theorem sc_nearest_place : FnScope N_nearest_place ["book", "value", "place"] (defScope st_nearest_place) := ⟨rfl, rfl, rfl, by decide +kernel, rfl, by decide +kernel, by decide +kernel⟩
abbrev st_Notebook___init__ : Stmt := inClass (top 29) 0
def N_Notebook___init__ : List Str := ["self"]
theorem sc_Notebook___init__ : FnScope N_Notebook___init__ ["self"] (defScope st_Notebook___init__) := ⟨rfl, rfl, rfl, by decide +kernel, rfl, by decide +kernel, by decide +kernel⟩
abbrev st_l_bag : Stmt := top 31
def N_l_bag : List Str := ["_law_script", "_law_stir", "_law_cell"]
theorem sc_l_bag : FnScope N_l_bag ["_law_script"] (defScope st_l_bag) := ⟨rfl, rfl, rfl, by decide +kernel, rfl, by decide +kernel, by decide +kernel⟩
abbrev st_l_stirred : Stmt := top 32
def N_l_stirred : List Str := ["_law_bag_here", "_law_wide", "_law_found", "_law_k", "_law_mixed"]
theorem sc_l_stirred : FnScope N_l_stirred ["_law_bag_here", "_law_wide"] (defScope st_l_stirred) := ⟨rfl, rfl, rfl, by decide +kernel, rfl, by decide +kernel, by decide +kernel⟩
abbrev st_l_draw : Stmt := top 33
def N_l_draw : List Str := ["_law_bag_here", "_law_wide", "_law_found"]
theorem sc_l_draw : FnScope N_l_draw ["_law_bag_here", "_law_wide"] (defScope st_l_draw) := ⟨rfl, rfl, rfl, by decide +kernel, rfl, by decide +kernel, by decide +kernel⟩
abbrev st_l_alike : Stmt := top 34
def N_l_alike : List Str := ["_law_found", "_law_due", "_law_k"]
theorem sc_l_alike : FnScope N_l_alike ["_law_found", "_law_due"] (defScope st_l_alike) := ⟨rfl, rfl, rfl, by decide +kernel, rfl, by decide +kernel, by decide +kernel⟩
abbrev st_l_bad_book : Stmt := top 35
def N_l_bad_book : List Str := ["_law_bag_here", "_law_odd", "_law_many", "_law_found", "_law_wrong", "_law_spot", "_law_k"]
theorem sc_l_bad_book : FnScope N_l_bad_book ["_law_bag_here"] (defScope st_l_bad_book) := ⟨rfl, rfl, rfl, by decide +kernel, rfl, by decide +kernel, by decide +kernel⟩
abbrev st_l_asked : Stmt := top 36
def N_l_asked : List Str := ["_law_way", "_law_thing_here", "_law_value_here", "e"]
theorem sc_l_asked : FnScope N_l_asked ["_law_way", "_law_thing_here", "_law_value_here"] (defScope st_l_asked) := ⟨rfl, rfl, rfl, by decide +kernel, rfl, by decide +kernel, by decide +kernel⟩
abbrev st_law : Stmt := top 37
def N_law : List Str := ["_law_script", "_law_bag_here", "_law_turn", "_law_bad", "_law_far", "_law_many", "_law_spot", "_law_some", "_law_pair", "_law_low", "_law_good", "_law_told", "_law_k", "_law_way"]
theorem sc_law : FnScope N_law ["_law_script"] (defScope st_law) := ⟨rfl, rfl, rfl, by decide +kernel, rfl, by decide +kernel, by decide +kernel⟩
def TInt1 : TSp := fun ds M Q _ => ∃ i, ds = [.int i] ∧ Q (.bl true) M
theorem TInt1_mono : Mono TInt1 := fun ds M Q Q' E E' h _ ⟨i, h1, h2⟩ => ⟨i, h1, h _ _ h2⟩
theorem TInt1_len : ∀ ds M Q E, TInt1 ds M Q E → ds.length = 1 := fun ds M Q E h => by obtain ⟨_, rfl, _⟩ := h; rfl
def TTold : TSp := fun ds M Q _ => ∃ i, ds = [.int i] ∧ Small i ∧ Q (.bl true) M
theorem TTold_mono : Mono TTold := fun ds M Q Q' E E' h _ ⟨i, h1, h3, h2⟩ => ⟨i, h1, h3, h _ _ h2⟩
theorem TTold_len : ∀ ds M Q E, TTold ds M Q E → ds.length = 1 := fun ds M Q E h => by obtain ⟨_, rfl, _⟩ := h; rfl
def TIsItem : TSp := fun ds M Q _ => ∃ x, ds = [itemD x] ∧ Small x.1 ∧ Small x.2 ∧ Q (.bl true) M
theorem TIsItem_mono : Mono TIsItem := fun ds M Q Q' E E' h _ ⟨i, h1, h3, h4, h2⟩ => ⟨i, h1, h3, h4, h _ _ h2⟩
theorem TIsItem_len : ∀ ds M Q E, TIsItem ds M Q E → ds.length = 1 := fun ds M Q E h => by obtain ⟨_, rfl, _⟩ := h; rfl
def TIsBook : TSp := fun ds M Q _ => ∃ d xs, ds = [d] ∧ LV M d (bookD xs) ∧ BookOk xs ∧ Q (.bl true) M
theorem TIsBook_mono : Mono TIsBook := fun ds M Q Q' E E' h _ ⟨d, i, h1, h3, h4, h2⟩ => ⟨d, i, h1, h3, h4, h _ _ h2⟩
theorem TIsBook_len : ∀ ds M Q E, TIsBook ds M Q E → ds.length = 1 := fun ds M Q E h => by obtain ⟨_, _, rfl, _⟩ := h; rfl
def TNeedBook : TSp := fun ds M Q _ => ∃ d xs, ds = [d] ∧ LV M d (bookD xs) ∧ BookOk xs ∧ Q .non M
theorem TNeedBook_mono : Mono TNeedBook := fun ds M Q Q' E E' h _ ⟨d, i, h1, h3, h4, h2⟩ => ⟨d, i, h1, h3, h4, h _ _ h2⟩
theorem TNeedBook_len : ∀ ds M Q E, TNeedBook ds M Q E → ds.length = 1 := fun ds M Q E h => by obtain ⟨_, _, rfl, _⟩ := h; rfl
section
variable {P : Program} {w : World} {K : PySem.W.Frag} {mg : Str → Option Value} {base : Heap}
local macro_rules
  | `(tactic| walk_at "ok") => `(tactic| first
  | ((show BlkOk N_is_integer (defScope st_is_integer) _ _); exact blkOk_by (by decide +kernel)))
  | `(tactic| walk_at "eWECall") => `(tactic| first
  | ((with_reducible refine gC "isinstance" ?_); refine we_isi rfl (by assumption) ?_))
  | `(tactic| walk_at "n") => `(tactic| first
  | ((with_reducible refine gN "thing" ?_); refine we_nm 0 rfl rfl ?_)
  | ((with_reducible show WE _ _ (Expr.Name "int" _) _ _ _); refine we_bltn (v := .ty "int") rfl (by assumption) (by decide +kernel) rfl ?_)
  | ((with_reducible show WE _ _ (Expr.Name "bool" _) _ _ _); refine we_bltn (v := .ty "bool") rfl (by assumption) (by decide +kernel) rfl ?_))
  | `(tactic| walk_at "t") => `(tactic| first
  | ((with_reducible show WS _ _ (Stmt.Assign [Expr.Tuple _ _ _] _ _) _ _ _); refine ws_asg ?_))
theorem fn_is_integer {f : Addr} {fd : FuncData} (b_isi : mg "isinstance" = none) (b_int : mg "int" = none) (b_bool : mg "bool" = none) (Fn : L2.Fun K "is_integer" "is_integer" st_is_integer f fd) :
    FnOk P w K mg base (L2.CX P w) 1 f fd ["thing"] (spG K TInt1) := by
  refine fn_ok Fn sc_is_integer rfl TInt1_len ?_
  intro cdv A outer s H E N hr ds M Q X' h
  obtain ⟨i, rfl, q⟩ := h
  show WB _ _ _ [some _] _ _
  refine wb_one ?_
  walk_at "g"
  exact q
end
section
variable {P : Program} {w : World} {K : PySem.W.Frag} {mg : Str → Option Value} {base : Heap}
local macro_rules
  | `(tactic| walk_at "ok") => `(tactic| first
  | ((show BlkOk N_is_told (defScope st_is_told) _ _); exact blkOk_by (by decide +kernel)))
  | `(tactic| walk_at "eWECall") => `(tactic| first
  | ((with_reducible show WE _ _ (Expr.Call (Expr.Name _ _) _ _ _) _ _ _); walk_at "c"))
  | `(tactic| walk_at "n") => `(tactic| first
  | ((with_reducible refine gN "thing" ?_); refine we_nm 0 rfl rfl ?_)
  | ((with_reducible show WE _ _ (Expr.Name "MOST" _) _ _ _); refine we_globI rfl (by assumption) ?_))
  | `(tactic| walk_at "t") => `(tactic| first
  | ((with_reducible show WS _ _ (Stmt.Assign [Expr.Tuple _ _ _] _ _) _ _ _); refine ws_asg ?_))
  | `(tactic| walk_at "c") => `(tactic| first
  | ((with_reducible refine gCK "is_integer" ?_); refine we_cl "is_integer" ?_))
theorem fn_is_told {f : Addr} {fd : FuncData} (c1 : ∃ t, mg "MOST" = some (.int 1000000000000000000000000000000 t)) (d_int : FD P w K mg base 1 "is_integer" 1 TInt1) (Fn : L2.Fun K "is_told" "is_told" st_is_told f fd) :
    FnOk P w K mg base (L2.CX P w) 2 f fd ["thing"] (spG K TTold) := by
  refine fn_ok Fn sc_is_told rfl TTold_len ?_
  intro cdv A outer s H E N hr ds M Q X' h
  obtain ⟨i, rfl, hi, q⟩ := h
  have hi' : i.natAbs ≤ 10 ^ 30 := hi
  show WB _ _ _ [some _] _ _
  refine wb_one ?_
  walk_at "g"
  refine ⟨i, rfl, ?_⟩
  walk_at "g"
  refine iteP (decide_eq_true (by omega)) ?_
  walk_at "g"
  rw [decide_eq_true (show i ≤ 1000000000000000000000000000000 by omega)]
  exact q
end
section
variable {P : Program} {w : World} {K : PySem.W.Frag} {mg : Str → Option Value} {base : Heap}
local macro_rules
  | `(tactic| walk_at "ok") => `(tactic| first
  | ((show BlkOk N_is_item (defScope st_is_item) _ _); exact blkOk_by (by decide +kernel)))
  | `(tactic| walk_at "eWECall") => `(tactic| first
  | ((with_reducible refine gC "isinstance" ?_); refine we_isi rfl (by assumption) ?_)
  | ((with_reducible show WE _ _ (Expr.Call (Expr.Name _ _) _ _ _) _ _ _); walk_at "c")
  | ((with_reducible refine gC "len" ?_); refine we_len rfl (by assumption) ?_))
  | `(tactic| walk_at "n") => `(tactic| first
  | ((with_reducible refine gN "thing" ?_); refine we_nm 0 rfl rfl ?_)
  | ((with_reducible show WE _ _ (Expr.Name "tuple" _) _ _ _); refine we_bltn (v := .ty "tuple") rfl (by assumption) (by decide +kernel) rfl ?_))
  | `(tactic| walk_at "t") => `(tactic| first
  | ((with_reducible show WS _ _ (Stmt.Assign [Expr.Tuple _ _ _] _ _) _ _ _); refine ws_asg ?_))
  | `(tactic| walk_at "c") => `(tactic| first
  | ((with_reducible refine gCK "is_told" ?_); refine we_cl "is_told" ?_))
theorem fn_is_item {f : Addr} {fd : FuncData} (b_isi : mg "isinstance" = none) (b_len : mg "len" = none) (b_tuple : mg "tuple" = none) (d_told : FD P w K mg base 2 "is_told" 1 TTold) (Fn : L2.Fun K "is_item" "is_item" st_is_item f fd) :
    FnOk P w K mg base (L2.CX P w) 3 f fd ["thing"] (spG K TIsItem) := by
  refine fn_ok Fn sc_is_item rfl TIsItem_len ?_
  intro cdv A outer s H E N hr ds M Q X' h
  obtain ⟨x, rfl, h1, h2, q⟩ := h
  show WB _ _ _ [some (.tup [.int x.1, .int x.2])] _ _
  refine wb_one ?_
  walk_at "g"
  refine iteP (decide_eq_true rfl) ?_
  walk_at "g"
  refine ⟨x.1, rfl, h1, ?_⟩
  walk_at "g"
  refine ⟨x.2, rfl, h2, ?_⟩
  exact q
end
section
variable {P : Program} {w : World} {K : PySem.W.Frag} {mg : Str → Option Value} {base : Heap}
local macro_rules
  | `(tactic| walk_at "ok") => `(tactic| first
  | ((show BlkOk N_is_book (defScope st_is_book) _ _); exact blkOk_by (by decide +kernel)))
  | `(tactic| walk_at "tG") => `(tactic| first
  | ((with_reducible refine gG "one" ?_); refine wg_nm 1 ?_)
  | ((with_reducible refine gG "other" ?_); refine wg_nm 2 ?_)
  | ((with_reducible refine gG "item" ?_); refine wg_nm 3 ?_))
  | `(tactic| walk_at "eWECall") => `(tactic| first
  | ((with_reducible refine gC "all" ?_); refine we_all rfl rfl (by assumption) ?_)
  | ((with_reducible refine gC "isinstance" ?_); refine we_isi rfl (by assumption) ?_)
  | ((with_reducible refine gC "len" ?_); refine we_len rfl (by assumption) ?_)
  | ((with_reducible show WE _ _ (Expr.Call (Expr.Name _ _) _ _ _) _ _ _); walk_at "c"))
  | `(tactic| walk_at "n") => `(tactic| first
  | ((with_reducible refine gN "thing" ?_); refine we_nm 0 rfl rfl ?_)
  | ((with_reducible refine gN "one" ?_); refine we_nm 1 rfl rfl ?_)
  | ((with_reducible refine gN "other" ?_); refine we_nm 2 rfl rfl ?_)
  | ((with_reducible refine gN "item" ?_); refine we_nm 3 rfl rfl ?_)
  | ((with_reducible show WE _ _ (Expr.Name "MOST_ITEMS" _) _ _ _); refine we_globI rfl (by assumption) ?_)
  | ((with_reducible show WE _ _ (Expr.Name "list" _) _ _ _); refine we_bltn (v := .ty "list") rfl (by assumption) (by decide +kernel) rfl ?_))
  | `(tactic| walk_at "t") => `(tactic| first
  | ((with_reducible show WG _ _ (Expr.Name _ _) _ _ _ _); walk_at "tG")
  | ((with_reducible show WS _ _ (Stmt.Assign [Expr.Tuple _ _ _] _ _) _ _ _); refine ws_asg ?_))
  | `(tactic| walk_at "c") => `(tactic| first
  | ((with_reducible refine gCK "is_item" ?_); refine we_cl "is_item" ?_))
  | `(tactic| walk_at "tg") => `(tactic| first
  | exact Tg.two (i := 1) (j := 2) rfl rfl (by decide) rfl rfl
  | exact Tg.one (i := 3) rfl rfl)
theorem fn_is_book {f : Addr} {fd : FuncData} (b_isi : mg "isinstance" = none) (b_len : mg "len" = none) (b_list : mg "list" = none) (b_all : mg "all" = none) (b_zip : mg "zip" = none) (c1 : ∃ t, mg "MOST_ITEMS" = some (.int 24 t)) (d_item : FD P w K mg base 3 "is_item" 1 TIsItem) (Fn : L2.Fun K "is_book" "is_book" st_is_book f fd) :
    FnOk P w K mg base (L2.CX P w) 4 f fd ["thing"] (spG K TIsBook) := by
  refine fn_ok Fn sc_is_book rfl TIsBook_len ?_
  intro cdv A outer s H E N hr ds M Q X' h
  obtain ⟨d, xs, rfl, hl, hb, q⟩ := h
  show WB _ _ _ [some _, none, none, none] _ _
  refine wb_cons ?_
  walk_at "g"
  refine isi1 hl.ty (by decide) (b := true) (by decide) ?_
  walk_at "g"
  refine Sq.len (.inl ⟨rfl, hl⟩) ?_
  walk_at "g"
  refine iteQ (decide_eq_false (by unfold bookD; rw [List.length_map]; have := hb.1; omega)) ?_
  walk_at "g"
  refine we_froz 0 (we_lcM (fun _ => .bl true) N (by walk_at "tg") (by walk_at "ok") (wi_list ?_))
  walk_at "g"
  refine ⟨_, hl, ?_, fun _ _ => hl.cons, ?_, ?_⟩
  · unfold bookD; rw [List.length_map, sizeLine_eq]; have := hb.1; omega
  · intro j d' acc p hd
    obtain ⟨y, hy, rfl⟩ := List.mem_map.mp (List.mem_of_getElem? hd)
    refine ⟨_, rfl, fun B => ?_⟩
    walk_at "g"
    exact ⟨y, rfl, (hb.2.1 y hy).1, (hb.2.1 y hy).2, rfl, rfl⟩
  · intro p
    refine ⟨p, _, rfl, rfl, ?_⟩
    walk_at "g"
    refine ⟨_, List.replicate xs.length true, rfl, ?_, ?_⟩
    · rw [show (List.replicate xs.length true).map D.bl = (bookD xs).map fun _ => D.bl true by unfold bookD; rw [List.map_map, List.map_replicate]; exact (List.map_const' ..).symm]
      exact .l
    · rw [show (List.replicate xs.length true).all id = true by simp]
      walk_at "g"
      refine we_froz 0 (we_lcM (fun _ => .bl true) N (by walk_at "tg") (by walk_at "ok") (wi_zip rfl (by assumption) ?_))
      walk_at "g"
      refine .inl ⟨_, hl, ?_⟩
      rw [cutD_1]
      walk_at "g"
      refine ⟨_, _, bookD xs, (bookD xs).drop 1, rfl, hl, .l, ?_, fun _ _ => ⟨hl.cons, .l⟩, ?_, ?_⟩
      · rw [zipD_len]
        unfold bookD; rw [List.length_map, sizeLine_eq]; have := hb.1; omega
      · intro j d' acc p' hd
        obtain ⟨u, v, hu, hv, rfl⟩ := zipD_inv hd
        unfold bookD at hu hv
        rw [List.getElem?_drop, List.getElem?_map] at hv
        rw [List.getElem?_map] at hu
        cases e1 : xs[j]? with
        | none => rw [e1] at hu; cases hu
        | some y =>
          cases e2 : xs[1 + j]? with
          | none => rw [e2] at hv; cases hv
          | some z =>
            obtain rfl : u = .tup [.int y.1, .int y.2] := by rw [e1] at hu; exact (Option.some.inj hu).symm
            obtain rfl : v = .tup [.int z.1, .int z.2] := by rw [e2] at hv; exact (Option.some.inj hv).symm
            have hlt : y.1 < z.1 := by
              obtain ⟨h1, h1'⟩ := List.getElem?_eq_some_iff.mp e1
              obtain ⟨h2, h2'⟩ := List.getElem?_eq_some_iff.mp e2
              have := List.pairwise_iff_getElem.mp hb.2.2 j (1 + j) (by simpa using h1) (by simpa using h2) (by omega)
              simpa [h1', h2'] using this
            refine ⟨_, ⟨_, _, rfl, rfl⟩, fun B => ?_⟩
            walk_at "g"
            all_goals first | rfl | rw [decide_eq_true hlt]
      · intro p'
        refine ⟨p', _, rfl, rfl, ?_⟩
        walk_at "g"
        obtain ⟨bs, e1, e2⟩ := all_true (zipD (bookD xs) ((bookD xs).drop 1))
        refine ⟨_, bs, rfl, by rw [e1]; exact .l, ?_⟩
        rw [e2]
        exact q
end
def TDivs : TSp := fun ds M Q _ => ∃ a b : Int, ds = [.int a, .int b] ∧ Q (.bl (decide (a ∣ b))) M
theorem TDivs_mono : Mono TDivs := fun ds M Q Q' E E' h _ ⟨a, b, h1, h2⟩ => ⟨a, b, h1, h _ _ h2⟩
theorem TDivs_len : ∀ ds M Q E, TDivs ds M Q E → ds.length = 2 := fun ds M Q E h => by obtain ⟨_, _, rfl, _⟩ := h; rfl
section
variable {P : Program} {w : World} {K : PySem.W.Frag} {mg : Str → Option Value} {base : Heap}
local macro_rules
  | `(tactic| walk_at "ok") => `(tactic| first
  | ((show BlkOk N_need_book (defScope st_need_book) _ _); exact blkOk_by (by decide +kernel)))
  | `(tactic| walk_at "eWECall") => `(tactic| first
  | ((with_reducible show WE _ _ (Expr.Call (Expr.Name _ _) _ _ _) _ _ _); walk_at "c"))
  | `(tactic| walk_at "n") => `(tactic| first
  | ((with_reducible show WE _ _ (Expr.Name "InvalidBook" _) _ _ _); refine we_glob (v := .ref _) rfl (by assumption) rfl (fun _ _ => .raw _) ?_))
local macro_rules
  | `(tactic| walk_at "n") => `(tactic| first
  | ((with_reducible refine gN "book" ?_); refine we_nm 0 rfl rfl ?_))
  | `(tactic| walk_at "t") => `(tactic| first
  | ((with_reducible show WS _ _ (Stmt.Assign [Expr.Tuple _ _ _] _ _) _ _ _); refine ws_asg ?_))
  | `(tactic| walk_at "c") => `(tactic| first
  | ((with_reducible refine gCK "is_book" ?_); refine we_cl "is_book" ?_))
theorem fn_need_book {f : Addr} {fd : FuncData} (d_book : FD P w K mg base 4 "is_book" 1 TIsBook) (Fn : L2.Fun K "need_book" "need_book" st_need_book f fd) :
    FnOk P w K mg base (L2.CX P w) 5 f fd ["book"] (spG K TNeedBook) := by
  refine fn_ok Fn sc_need_book rfl TNeedBook_len ?_
  intro cdv A outer s H E N hr ds M Q X' h
  obtain ⟨d, xs, rfl, hl, hb, q⟩ := h
  show WB _ _ _ [some _] _ _
  refine wb_one ?_
  walk_at "g"
  refine ⟨_, xs, rfl, hl, hb, ?_⟩
  walk_at "g"
  exact q
end
section
variable {P : Program} {w : World} {K : PySem.W.Frag} {mg : Str → Option Value} {base : Heap}
local macro_rules
  | `(tactic| walk_at "ok") => `(tactic| first
  | ((show BlkOk N_divides (defScope st_divides) _ _); exact blkOk_by (by decide +kernel)))
  | `(tactic| walk_at "n") => `(tactic| first
  | ((with_reducible refine gN "number" ?_); refine we_nm 0 rfl rfl ?_)
  | ((with_reducible refine gN "other" ?_); refine we_nm 1 rfl rfl ?_))
  | `(tactic| walk_at "t") => `(tactic| first
  | ((with_reducible show WS _ _ (Stmt.Assign [Expr.Tuple _ _ _] _ _) _ _ _); refine ws_asg ?_))
theorem fn_divides {f : Addr} {fd : FuncData} (Fn : L2.Fun K "divides" "divides" st_divides f fd) :
    FnOk P w K mg base (L2.CX P w) 1 f fd ["number", "other"] (spG K TDivs) := by
  refine fn_ok Fn sc_divides rfl TDivs_len ?_
  intro cdv A outer s H E N hr ds M Q X' h
  obtain ⟨a, b, rfl, q⟩ := h
  show WB _ _ _ [some _, some _] _ _
  refine wb_one ?_
  walk_at "g"
  refine iteD (fun h0 => ?_) (fun h0 => ?_)
  · subst h0
    walk_at "g"
    rw [show decide ((0 : Int) ∣ b) = decide (b = 0) from by simp [Int.zero_dvd]] at q
    exact q
  · refine we_eq (by walk_at "u") (we_modN ?_)
    walk_at "g"
    rw [show decide (a ∣ b) = decide (b.fmod a = 0) from by
      by_cases h : a ∣ b
      · rw [decide_eq_true h, decide_eq_true (Int.fmod_eq_zero_of_dvd h)]
      · rw [decide_eq_false h, decide_eq_false fun z => h (Int.dvd_of_fmod_eq_zero z)]] at q
    all_goals first | exact q | exact h0
end
/-- two items fit -/
def Fit (x y : Int × Int) : Prop := (x.1 - y.1) ∣ (x.2 - y.2)
instance (x y : Int × Int) : Decidable (Fit x y) := inferInstanceAs (Decidable (_ ∣ _))
def TFit : TSp := fun ds M Q _ => ∃ x y, ds = [itemD x, itemD y] ∧ Q (.bl (decide (Fit x y))) M
theorem TFit_mono : Mono TFit := fun ds M Q Q' E E' h _ ⟨a, b, h1, h2⟩ => ⟨a, b, h1, h _ _ h2⟩
theorem TFit_len : ∀ ds M Q E, TFit ds M Q E → ds.length = 2 := fun ds M Q E h => by obtain ⟨_, _, rfl, _⟩ := h; rfl
/-- a book all of whose items fit -/
def PossOk (xs : List (Int × Int)) : Prop := BookOk xs ∧ ∀ x ∈ xs, ∀ y ∈ xs, Fit x y
def TConf0 : TSp := fun ds M Q _ => ∃ d xs, ds = [d] ∧ LV M d (bookD xs) ∧ PossOk xs ∧ ∀ p rest, Q (.cel p) (rest ++ (p, .lst []) :: M)
theorem TConf0_mono : Mono TConf0 := fun ds M Q Q' E E' h _ ⟨a, b, h1, h2, h3, h4⟩ => ⟨a, b, h1, h2, h3, fun p r => h _ _ (h4 p r)⟩
theorem TConf0_len : ∀ ds M Q E, TConf0 ds M Q E → ds.length = 1 := fun ds M Q E h => by obtain ⟨_, _, rfl, _⟩ := h; rfl
section
variable {P : Program} {w : World} {K : PySem.W.Frag} {mg : Str → Option Value} {base : Heap}
local macro_rules
  | `(tactic| walk_at "ok") => `(tactic| first
  | ((show BlkOk N_do_fit (defScope st_do_fit) _ _); exact blkOk_by (by decide +kernel)))
  | `(tactic| walk_at "eWECall") => `(tactic| first
  | ((with_reducible show WE _ _ (Expr.Call (Expr.Name _ _) _ _ _) _ _ _); walk_at "c"))
  | `(tactic| walk_at "n") => `(tactic| first
  | ((with_reducible refine gN "one" ?_); refine we_nm 0 rfl rfl ?_)
  | ((with_reducible refine gN "other" ?_); refine we_nm 1 rfl rfl ?_))
  | `(tactic| walk_at "t") => `(tactic| first
  | ((with_reducible show WS _ _ (Stmt.Assign [Expr.Tuple _ _ _] _ _) _ _ _); refine ws_asg ?_))
  | `(tactic| walk_at "c") => `(tactic| first
  | ((with_reducible refine gCK "divides" ?_); refine we_cl "divides" ?_))
theorem fn_do_fit {f : Addr} {fd : FuncData} (d_div : FD P w K mg base 1 "divides" 2 TDivs) (Fn : L2.Fun K "do_fit" "do_fit" st_do_fit f fd) :
    FnOk P w K mg base (L2.CX P w) 2 f fd ["one", "other"] (spG K TFit) := by
  refine fn_ok Fn sc_do_fit rfl TFit_len ?_
  intro cdv A outer s H E N hr ds M Q X' h
  obtain ⟨x, y, rfl, q⟩ := h
  show WB _ _ _ [some (.tup [.int x.1, .int x.2]), some (.tup [.int y.1, .int y.2])] _ _
  refine wb_one ?_
  walk_at "g"
  exact ⟨_, _, rfl, q⟩
end
section
variable {P : Program} {w : World} {K : PySem.W.Frag} {mg : Str → Option Value} {base : Heap}
local macro_rules
  | `(tactic| walk_at "ok") => `(tactic| first
  | ((show BlkOk N_conflicts_in (defScope st_conflicts_in) _ _); exact blkOk_by (by decide +kernel)))
  | `(tactic| walk_at "tS") => `(tactic| first
  | ((with_reducible refine gS "found" ?_); refine ws_st 1 ?_))
  | `(tactic| walk_at "tG") => `(tactic| first
  | ((with_reducible refine gG "first" ?_); refine wg_nm 2 ?_)
  | ((with_reducible refine gG "one" ?_); refine wg_nm 3 ?_)
  | ((with_reducible refine gG "second" ?_); refine wg_nm 4 ?_))
  | `(tactic| walk_at "eWECall") => `(tactic| first
  | ((with_reducible refine gC "len" ?_); refine we_len rfl (by assumption) ?_)
  | ((with_reducible show WE _ _ (Expr.Call (Expr.Name _ _) _ _ _) _ _ _); walk_at "c"))
  | `(tactic| walk_at "n") => `(tactic| first
  | ((with_reducible refine gN "book" ?_); refine we_nm 0 rfl rfl ?_)
  | ((with_reducible refine gN "found" ?_); refine we_nm 1 rfl rfl ?_)
  | ((with_reducible refine gN "first" ?_); refine we_nm 2 rfl rfl ?_)
  | ((with_reducible refine gN "second" ?_); refine we_nm 4 rfl rfl ?_)
  | ((with_reducible refine gN "one" ?_); refine we_nm 3 rfl rfl ?_))
  | `(tactic| walk_at "t") => `(tactic| first
  | ((with_reducible show WS _ _ (Stmt.Assign [Expr.Name _ _] _ _) _ _ _); walk_at "tS")
  | ((with_reducible show WG _ _ (Expr.Name _ _) _ _ _ _); walk_at "tG")
  | ((with_reducible show WS _ _ (Stmt.Assign [Expr.Tuple _ _ _] _ _) _ _ _); refine ws_asg ?_))
  | `(tactic| walk_at "c") => `(tactic| first
  | ((with_reducible refine gCK "do_fit" ?_); refine we_cl "do_fit" ?_))
  | `(tactic| walk_at "tg") => `(tactic| first
  | exact Tg.one (i := 4) rfl rfl)
theorem fn_conflicts_in {f : Addr} {fd : FuncData} (b_enum : mg "enumerate" = none) (b_range : mg "range" = none) (b_len : mg "len" = none) (d_fit : FD P w K mg base 2 "do_fit" 2 TFit) (Fn : L2.Fun K "conflicts_in" "conflicts_in" st_conflicts_in f fd) :
    FnOk P w K mg base (L2.CX P w) 3 f fd ["book"] (spG K TConf0) := by
  refine fn_ok Fn sc_conflicts_in rfl TConf0_len ?_
  intro cdv A outer s H E N hr ds M Q X' h
  obtain ⟨d, xs, rfl, hl, hb, q⟩ := h
  show WB _ _ _ [some _, none, none, none, none] _ _
  refine wb_cons ?_
  walk_at "t"
  refine we_lstC ?_
  walk_at "g"
  intro p
  walk_at "g"
  refine ws_for N (wi_enum rfl (by assumption) ?_)
  walk_at "g"
  refine ⟨_, bookD xs, rfl, hl.cons, fun j δ' M' => ∃ (x2 x3 x4 : Option D) (rest : Cells), δ' = [some d, some (.cel p), x2, x3, x4] ∧ M' = rest ++ (p, .lst []) :: M, ?_, ?_, ?_, ?_⟩
  · exact ⟨none, none, none, [], rfl, rfl⟩
  · rintro j δ' M' _ ⟨x2, x3, x4, rest, rfl, rfl⟩
    exact hl.cons.app rest
  · rintro j d' δ' M' hd ⟨x2, x3, x4, rest, rfl, rfl⟩
    obtain ⟨u, hu, rfl⟩ := enumD_inv hd
    unfold bookD at hu
    rw [List.getElem?_map] at hu
    cases e1 : xs[j]? with
    | none => rw [e1] at hu; cases hu
    | some x =>
      obtain rfl : u = itemD x := by rw [e1] at hu; exact (Option.some.inj hu).symm
      have hx := List.mem_of_getElem? e1
      have hlen := hb.1.1
      have hbl : (bookD xs).length = xs.length := by unfold bookD; rw [List.length_map]
      walk_at "s"
      walk_at "s"
      walk_at "t"
      walk_at "s"
      walk_at "t"
      walk_at "s"
      refine wb_drop (List.sublist_append_right _ _) ?_
      walk_at "g"
      refine we_extend ?_
      walk_at "g"
      refine we_lcF (fun _ => false) id N (by walk_at "tg") (by walk_at "ok") (wi_range2 rfl (by assumption) ?_)
      walk_at "g"
      refine Sq.len (.inl ⟨rfl, hl.cons⟩) ?_
      walk_at "g"
      have hj := (List.getElem?_eq_some_iff.mp e1).1
      refine ⟨_, _, rfl, ⟨by omega, by omega, by omega, by omega⟩, ?_, fun _ _ => trivial, ?_, ?_⟩
      · rw [rangeD_len, hbl, sizeLine_eq]; omega
      · intro i d2 acc p' hd2
        obtain ⟨hi, rfl⟩ := rangeD_inv hd2
        rw [hbl] at hi
        have hi2 : j + 1 + i < xs.length := by omega
        have ey : (bookD xs)[j + 1 + i]? = some (itemD xs[j + 1 + i]) := by unfold bookD; rw [List.getElem?_map, List.getElem?_eq_getElem hi2]; rfl
        refine ⟨_, rfl, fun B => ?_⟩
        walk_at "g"
        refine Sq.ix (.inl ⟨rfl, hl.cons.cons⟩) (z := itemD xs[j + 1 + i]) (by rw [show (j : Int) + 1 + (i : Nat) = ((j + 1 + i : Nat) : Int) by omega]; exact atI_nat ey) ?_
        walk_at "g"
        refine ⟨x, xs[j + 1 + i], rfl, ?_⟩
        rw [decide_eq_true (hb.2 x hx _ (List.getElem_mem hi2))]
        walk_at "g"
        all_goals first | rfl | exact ⟨rfl, rfl, fun z => absurd z (by decide)⟩ | exact ⟨rfl, fun z => absurd z (by decide)⟩
      · intro p'
        walk_at "g"
        refine ⟨p', 1, [], 0, [], rfl, rfl, by simp, by decide, ?_⟩
        walk_at "g"
        exact ⟨_, _, _, [_], rfl, rfl⟩
  · rintro δ' M' ⟨x2, x3, x4, rest, rfl, rfl⟩
    walk_at "g"
    exact q p rest
end
def TPoss : TSp := fun ds M Q _ => ∃ d xs, ds = [d] ∧ LV M d (bookD xs) ∧ PossOk xs ∧ Q .non M
theorem TPoss_mono : Mono TPoss := fun ds M Q Q' E E' h _ ⟨a, b, h1, h2, h3, h4⟩ => ⟨a, b, h1, h2, h3, h _ _ h4⟩
theorem TPoss_len : ∀ ds M Q E, TPoss ds M Q E → ds.length = 1 := fun ds M Q E h => by obtain ⟨_, _, rfl, _⟩ := h; rfl
section
variable {P : Program} {w : World} {K : PySem.W.Frag} {mg : Str → Option Value} {base : Heap}
local macro_rules
  | `(tactic| walk_at "ok") => `(tactic| first
  | ((show BlkOk N_conflict_in (defScope st_conflict_in) _ _); exact blkOk_by (by decide +kernel)))
  | `(tactic| walk_at "tS") => `(tactic| first
  | ((with_reducible refine gS "found" ?_); refine ws_st 1 ?_))
  | `(tactic| walk_at "eWECall") => `(tactic| first
  | ((with_reducible show WE _ _ (Expr.Call (Expr.Name _ _) _ _ _) _ _ _); walk_at "c"))
  | `(tactic| walk_at "n") => `(tactic| first
  | ((with_reducible refine gN "found" ?_); refine we_nm 1 rfl rfl ?_)
  | ((with_reducible refine gN "book" ?_); refine we_nm 0 rfl rfl ?_))
  | `(tactic| walk_at "t") => `(tactic| first
  | ((with_reducible show WS _ _ (Stmt.Assign [Expr.Name _ _] _ _) _ _ _); walk_at "tS")
  | ((with_reducible show WS _ _ (Stmt.Assign [Expr.Tuple _ _ _] _ _) _ _ _); refine ws_asg ?_))
  | `(tactic| walk_at "c") => `(tactic| first
  | ((with_reducible refine gCK "conflicts_in" ?_); refine we_cl "conflicts_in" ?_))
theorem fn_conflict_in {f : Addr} {fd : FuncData} (d_conf : FD P w K mg base 3 "conflicts_in" 1 TConf0) (Fn : L2.Fun K "conflict_in" "conflict_in" st_conflict_in f fd) :
    FnOk P w K mg base (L2.CX P w) 4 f fd ["book"] (spG K TPoss) := by
  refine fn_ok Fn sc_conflict_in rfl TPoss_len ?_
  intro cdv A outer s H E N hr ds M Q X' h
  obtain ⟨d, xs, rfl, hl, hb, q⟩ := h
  show WB _ _ _ [some _, none] _ _
  refine wb_cons ?_
  walk_at "g"
  refine ⟨d, xs, rfl, hl, hb, fun p rest => ?_⟩
  refine wb_drop (List.sublist_append_right _ _) ?_
  refine wb_one (ws_ret (WE.few ?_))
  walk_at "g"
  refine req_dN (p := .list []) (q := .list []) (.cl (ds := []) 0 rfl rfl) (.fz rfl) rfl rfl ?_
  refine ⟨_, rfl, iteQ rfl ?_⟩
  walk_at "g"
  exact ⟨M, List.sublist_cons_self _ _, q⟩
end
section
variable {P : Program} {w : World} {K : PySem.W.Frag} {mg : Str → Option Value} {base : Heap}
local macro_rules
  | `(tactic| walk_at "ok") => `(tactic| first
  | ((show BlkOk N_need_fitting (defScope st_need_fitting) _ _); exact blkOk_by (by decide +kernel)))
  | `(tactic| walk_at "tS") => `(tactic| first
  | ((with_reducible refine gS "conflict" ?_); refine ws_st 1 ?_))
  | `(tactic| walk_at "eWECall") => `(tactic| first
  | ((with_reducible show WE _ _ (Expr.Call (Expr.Name _ _) _ _ _) _ _ _); walk_at "c"))
  | `(tactic| walk_at "n") => `(tactic| first
  | ((with_reducible show WE _ _ (Expr.Name "Unfit" _) _ _ _); refine we_glob (v := .ref _) rfl (by assumption) rfl (fun _ _ => .raw _) ?_))
local macro_rules
  | `(tactic| walk_at "n") => `(tactic| first
  | ((with_reducible refine gN "conflict" ?_); refine we_nm 1 rfl rfl ?_)
  | ((with_reducible refine gN "book" ?_); refine we_nm 0 rfl rfl ?_))
  | `(tactic| walk_at "t") => `(tactic| first
  | ((with_reducible show WS _ _ (Stmt.Assign [Expr.Name _ _] _ _) _ _ _); walk_at "tS")
  | ((with_reducible show WS _ _ (Stmt.Assign [Expr.Tuple _ _ _] _ _) _ _ _); refine ws_asg ?_))
  | `(tactic| walk_at "c") => `(tactic| first
  | ((with_reducible refine gCK "conflict_in" ?_); refine we_cl "conflict_in" ?_))
theorem fn_need_fitting {f : Addr} {fd : FuncData} (d_conf : FD P w K mg base 4 "conflict_in" 1 TPoss) (Fn : L2.Fun K "need_fitting" "need_fitting" st_need_fitting f fd) :
    FnOk P w K mg base (L2.CX P w) 5 f fd ["book"] (spG K TPoss) := by
  refine fn_ok Fn sc_need_fitting rfl TPoss_len ?_
  intro cdv A outer s H E N hr ds M Q X' h
  obtain ⟨d, xs, rfl, hl, hb, q⟩ := h
  show WB _ _ _ [some _, none] _ _
  refine wb_cons ?_
  walk_at "g"
  refine ⟨d, xs, rfl, hl, hb, ?_⟩
  walk_at "g"
  exact q
end
section
variable {P : Program} {w : World} {K : PySem.W.Frag} {mg : Str → Option Value} {base : Heap}
local macro_rules
  | `(tactic| walk_at "ok") => `(tactic| first
  | ((show BlkOk N_need_possible (defScope st_need_possible) _ _); exact blkOk_by (by decide +kernel)))
  | `(tactic| walk_at "eWECall") => `(tactic| first
  | ((with_reducible show WE _ _ (Expr.Call (Expr.Name _ _) _ _ _) _ _ _); walk_at "c"))
  | `(tactic| walk_at "n") => `(tactic| first
  | ((with_reducible refine gN "book" ?_); refine we_nm 0 rfl rfl ?_))
  | `(tactic| walk_at "t") => `(tactic| first
  | ((with_reducible show WS _ _ (Stmt.Assign [Expr.Tuple _ _ _] _ _) _ _ _); refine ws_asg ?_))
  | `(tactic| walk_at "c") => `(tactic| first
  | ((with_reducible refine gCK "need_book" ?_); refine we_cl "need_book" ?_)
  | ((with_reducible refine gCK "need_fitting" ?_); refine we_cl "need_fitting" ?_))
theorem fn_need_possible {f : Addr} {fd : FuncData} (d_book : FD P w K mg base 5 "need_book" 1 TNeedBook) (d_fit : FD P w K mg base 5 "need_fitting" 1 TPoss) (Fn : L2.Fun K "need_possible" "need_possible" st_need_possible f fd) :
    FnOk P w K mg base (L2.CX P w) 6 f fd ["book"] (spG K TPoss) := by
  refine fn_ok Fn sc_need_possible rfl TPoss_len ?_
  intro cdv A outer s H E N hr ds M Q X' h
  obtain ⟨d, xs, rfl, hl, hb, q⟩ := h
  show WB _ _ _ [some _] _ _
  refine wb_cons ?_
  walk_at "g"
  refine ⟨d, xs, rfl, hl, hb.1, ?_⟩
  walk_at "g"
  refine ⟨d, xs, rfl, hl, hb, ?_⟩
  walk_at "g"
  exact q
end
/-! StandsA -/
/-- all divisors of n, from 1 on, found below the root -/
def DivsTo (n k : Int) (ds : List Int) : Prop := ∀ d, d ∈ ds ↔ (1 ≤ d ∧ d ∣ n ∧ (d < k ∨ n / d < k))
theorem divs_1 (n : Int) (hn : 1 ≤ n) : DivsTo n 1 [] := fun d => by
  constructor
  · intro h; cases h
  · rintro ⟨h1, h2, h3⟩
    exfalso
    rcases h3 with h | h
    · omega
    · obtain ⟨c, rfl⟩ := h2
      rw [Int.mul_ediv_cancel_left _ (by omega)] at h
      have : d * c ≤ d * 0 := Int.mul_le_mul_of_nonneg_left (by omega) (by omega)
      omega
theorem divs_no {n k : Int} {ds : List Int} (hk : 1 ≤ k) (h : DivsTo n k ds) (hm : n % k ≠ 0) : DivsTo n (k + 1) ds := fun d => by
  rw [h d]
  constructor
  · rintro ⟨h1, h2, h3⟩
    exact ⟨h1, h2, by omega⟩
  · rintro ⟨h1, h2, h3⟩
    refine ⟨h1, h2, ?_⟩
    have e1 : d ≠ k := fun e => hm (by rw [← e]; exact Int.emod_eq_zero_of_dvd h2)
    have e2 : n / d ≠ k := fun e => hm (by
      obtain ⟨c, rfl⟩ := h2
      rw [Int.mul_ediv_cancel_left _ (by omega)] at e
      rw [← e, Int.mul_emod_left])
    omega
theorem divs_yes {n k : Int} {ds : List Int} (hn : 1 ≤ n) (hk : 1 ≤ k) (h : DivsTo n k ds) (hm : n % k = 0) : DivsTo n (k + 1) (ds ++ [k, n / k]) := fun d => by
  obtain ⟨c, rfl⟩ := Int.dvd_of_emod_eq_zero hm
  have hc : 1 ≤ c := by
    refine Int.not_lt.mp fun hc => ?_
    have : k * c ≤ k * 0 := Int.mul_le_mul_of_nonneg_left (by omega) (by omega)
    omega
  rw [Int.mul_ediv_cancel_left _ (by omega : k ≠ 0), List.mem_append, h d]
  simp only [List.mem_cons, List.not_mem_nil, or_false]
  constructor
  · rintro (⟨h1, h2, h3⟩ | rfl | rfl)
    · exact ⟨h1, h2, by omega⟩
    · exact ⟨hk, Int.dvd_mul_right _ _, .inl (by omega)⟩
    · exact ⟨hc, Int.dvd_mul_left _ _, .inr (by rw [Int.mul_ediv_cancel _ (by omega)]; omega)⟩
  · rintro ⟨h1, h2, h3⟩
    by_cases e1 : d = k
    · exact .inr (.inl e1)
    · by_cases e2 : k * c / d = k
      · refine .inr (.inr ?_)
        obtain ⟨m, hm2⟩ := h2
        rw [hm2, Int.mul_ediv_cancel_left _ (by omega)] at e2
        rw [e2, Int.mul_comm d k] at hm2
        exact (Int.eq_of_mul_eq_mul_left (by omega) hm2).symm
      · exact .inl ⟨h1, h2, by omega⟩
theorem divs_end {n k : Int} {ds : List Int} (hn : 1 ≤ n) (hk : 1 ≤ k) (h : DivsTo n k ds) (hm : n < k * k) : ∀ d, d ∈ ds ↔ 1 ≤ d ∧ d ∣ n := fun d => by
  rw [h d]
  constructor
  · rintro ⟨h1, h2, _⟩; exact ⟨h1, h2⟩
  · rintro ⟨h1, h2⟩
    refine ⟨h1, h2, ?_⟩
    by_cases hd : d < k
    · exact .inl hd
    · right
      obtain ⟨c, rfl⟩ := h2
      rw [Int.mul_ediv_cancel_left _ (by omega)]
      refine Int.not_le.mp fun hc => ?_
      have e1 : k * k ≤ d * k := Int.mul_le_mul_of_nonneg_right (by omega) (by omega)
      have e2 : d * k ≤ d * c := Int.mul_le_mul_of_nonneg_left hc (by omega)
      omega
def TDivisors : TSp := fun ds M Q _ => ∃ n, ds = [.int n] ∧ 1 ≤ n ∧ n ≤ 10 ^ 9 ∧ ∀ (p : Addr) (xs : List Int) (rest : Cells), (∀ d, d ∈ xs ↔ 1 ≤ d ∧ d ∣ n) → (xs.length : Int) * xs.length ≤ 4 * n → Q (.cel p) (rest ++ (p, .lst (xs.map D.int)) :: M)
theorem TDivisors_mono : Mono TDivisors := fun ds M Q Q' E E' h _ ⟨a, h1, h2, h3, h4⟩ => ⟨a, h1, h2, h3, fun p xs r hx hz => h _ _ (h4 p xs r hx hz)⟩
theorem TDivisors_len : ∀ ds M Q E, TDivisors ds M Q E → ds.length = 1 := fun ds M Q E h => by obtain ⟨_, rfl, _⟩ := h; rfl
section
variable {P : Program} {w : World} {K : PySem.W.Frag} {mg : Str → Option Value} {base : Heap}
local macro_rules
  | `(tactic| walk_at "ok") => `(tactic| first
  | ((show BlkOk N_divisors_in (defScope st_divisors_in) _ _); exact blkOk_by (by decide +kernel)))
  | `(tactic| walk_at "tG") => `(tactic| first
  | ((with_reducible refine gG "found" ?_); refine wg_nm 1 ?_)
  | ((with_reducible refine gG "one" ?_); refine wg_nm 2 ?_))
  | `(tactic| walk_at "n") => `(tactic| first
  | ((with_reducible refine gN "one" ?_); refine we_nm 2 rfl rfl ?_)
  | ((with_reducible refine gN "number" ?_); refine we_nm 0 rfl rfl ?_)
  | ((with_reducible refine gN "found" ?_); refine we_nm 1 rfl rfl ?_))
  | `(tactic| walk_at "t") => `(tactic| first
  | ((with_reducible show WG _ _ (Expr.Name _ _) _ _ _ _); walk_at "tG")
  | ((with_reducible show WS _ _ (Stmt.Assign [Expr.Tuple [Expr.Name "found" _, Expr.Name "one" _] _ _] (Expr.Tuple _ _ _) _) _ _ _); first | refine ws_par (i := 1) (j := 2) (by assumption) rfl rfl (by decide) rfl rfl rfl ?_ | refine ws_asg ?_)
  | ((with_reducible show WS _ _ (Stmt.AugAssign (Expr.Name "one" _) Operator.Add _ _) _ _ _); refine ws_augI (i := 2) (by assumption) rfl (by first | exact .inl rfl | exact .inr rfl) iop_addQ rfl ?_)
  | ((with_reducible show WS _ _ (Stmt.Assign [Expr.Tuple _ _ _] _ _) _ _ _); refine ws_asg ?_))
theorem fn_divisors_in {f : Addr} {fd : FuncData} (Fn : L2.Fun K "divisors_in" "divisors_in" st_divisors_in f fd) :
    FnOk P w K mg base (L2.CX P w) 1 f fd ["number"] (spG K TDivisors) := by
  refine fn_ok Fn sc_divisors_in rfl TDivisors_len ?_
  intro cdv A outer s H E N hr ds M Q X' h
  obtain ⟨n, rfl, h1, h2, q⟩ := h
  show WB _ _ _ [some _, none, none] _ _
  refine wb_cons ?_
  walk_at "g"
  refine we_lstC ?_
  walk_at "g"
  intro p
  walk_at "g"
  refine ⟨_, _, rfl, ?_⟩
  refine wb_cons ?_
  refine ws_while N (fun m δ' M' => ∃ (one : Int) (ds : List Int) (rest : Cells), δ' = [some (.int n), some (.cel p), some (.int one)] ∧ M' = rest ++ (p, .lst (ds.map D.int)) :: M ∧ 1 ≤ one ∧ one ≤ n + 1 ∧ DivsTo n one ds ∧ (ds.length : Int) ≤ 2 * (one - 1) ∧ (one - 1) * (one - 1) ≤ n ∧ m = (n + 1 - one).toNat) ?_ ?_
  · exact ⟨_, 1, [], [], rfl, rfl, by omega, by omega, divs_1 n h1, by decide, by omega, rfl⟩
  · rintro m δ' M' ⟨one, ds, rest, rfl, rfl, ho1, ho2, hd, hl, hsq, rfl⟩
    walk_at "g"
    all_goals first | exact IntMulOk.of_left (by have := intBits_le (i := one) (n := 40) (by omega); omega) | skip
    refine iteD (fun hle => ?_) (fun hle => ?_)
    · refine wb_drop (List.sublist_append_right _ _) ?_
      have hon : one ≤ n := by
        have : one * 1 ≤ one * one := Int.mul_le_mul_of_nonneg_left (by omega) (by omega)
        omega
      have hlen : ds.length < 2000000 := by
        have h3 : one < 100000 := by
          refine Int.not_le.mp fun h => ?_
          have : 100000 * 100000 ≤ one * one := Int.mul_le_mul h h (by omega) (by omega)
          omega
        omega
      walk_at "g"
      rotate_left 1
      · omega
      refine iteD (fun hm => ?_) (fun hm => ?_)
      · walk_at "g"
        refine we_extend ?_
        walk_at "g"
        refine we_lstC ?_
        walk_at "g"
        rotate_left 1
        · exact ⟨by omega, by have := log2_lt (i := one) (n := 40) (by omega) (by decide); omega⟩
        intro p'
        walk_at "g"
        refine ⟨p', 1, _, 0, _, rfl, rfl, rfl, by rw [List.length_map, sizeLine_eq]; show ds.length + 2 ≤ _; omega, ?_⟩
        walk_at "g"
        refine ⟨trivial, _, ?_, one + 1, ds ++ [one, n / one], [(p', .lst [.int one, .int (n / one)])], rfl, ?_, by omega, by omega, divs_yes h1 ho1 hd hm, ?_, by rw [show one + 1 - 1 = one by omega]; exact hle, rfl⟩
        · omega
        · rw [List.map_append]; rfl
        · rw [List.length_append]; show ((ds.length + 2 : Nat) : Int) ≤ _; omega
      · walk_at "g"
        exact ⟨trivial, _, by omega, one + 1, ds, [], rfl, rfl, by omega, by omega, divs_no ho1 hd hm, by omega, by rw [show one + 1 - 1 = one by omega]; exact hle, rfl⟩
    · walk_at "g"
      refine q p ds rest (divs_end h1 ho1 hd (by omega)) ?_
      have e1 : (ds.length : Int) * ds.length ≤ (2 * (one - 1)) * (2 * (one - 1)) := Int.mul_le_mul hl hl (by omega) (by omega)
      have e2 : (2 * (one - 1)) * (2 * (one - 1)) = 4 * ((one - 1) * (one - 1)) := by rw [Int.mul_assoc 2, Int.mul_left_comm (one - 1) 2, ← Int.mul_assoc 2 2]; rfl
      omega
end
/-! StandsB -/
def FitsAt (xs : List (Int × Int)) (v z : Int) : Prop := ∀ x ∈ xs, (z - x.1) ∣ (v - x.2)
instance (xs : List (Int × Int)) (v z : Int) : Decidable (FitsAt xs v z) := inferInstanceAs (Decidable (∀ x ∈ xs, _))
/-- some told value is another one, and then one is near -/
def NearB (xs : List (Int × Int)) (v : Int) : Prop := (∃ x ∈ xs, x.2 ≠ v) → ∃ x ∈ xs, x.2 ≠ v ∧ -180 ≤ v - x.2 ∧ v - x.2 ≤ 180
def absI (i : Int) : Int := if i < 0 then -i else i
def rowsOf (xs : List (Int × Int)) (v : Int) : List (Int × Int) := (xs.filter fun x => !decide (x.2 = v)).map fun x => (absI (v - x.2), x.1)
def kOwn (v : Int) : D → Bool
  | .tup [.int _, .int o] => !decide (o = v)
  | _ => false
def fOwn (v : Int) : D → D
  | .tup [.int p, .int o] => pD (absI (v - o), p)
  | _ => .non
def fitD (v z : Int) : D → D
  | .tup [.int t, .int o] => .bl (decide ((z - t) ∣ (v - o)))
  | _ => .non
theorem rows_D (xs : List (Int × Int)) (v : Int) : ((bookD xs).filter (kOwn v)).map (fOwn v) = (rowsOf xs v).map pD := by
  unfold bookD rowsOf
  rw [List.filter_map, List.map_map, List.map_map]
  rfl
theorem fit_D (xs : List (Int × Int)) (v z : Int) : (bookD xs).map (fitD v z) = (xs.map fun x => decide ((z - x.1) ∣ (v - x.2))).map D.bl := by
  unfold bookD
  rw [List.map_map, List.map_map]
  rfl
theorem fit_all (xs : List (Int × Int)) (v z : Int) : (xs.map fun x => decide ((z - x.1) ∣ (v - x.2))).all id = decide (FitsAt xs v z) := by
  rw [List.all_map, Bool.eq_iff_iff, decide_eq_true_iff]
  simp [FitsAt]
theorem rows_nil {xs : List (Int × Int)} {v : Int} : rowsOf xs v = [] ↔ ∀ x ∈ xs, x.2 = v := by
  unfold rowsOf
  rw [List.map_eq_nil_iff, List.filter_eq_nil_iff]
  simp
theorem rows_mem {xs : List (Int × Int)} {v : Int} {q : Int × Int} (h : q ∈ rowsOf xs v) : ∃ x ∈ xs, x.2 ≠ v ∧ q = (absI (v - x.2), x.1) := by
  obtain ⟨x, hx, rfl⟩ := List.mem_map.mp h
  obtain ⟨h1, h2⟩ := List.mem_filter.mp hx
  exact ⟨x, h1, by simpa using h2, rfl⟩
theorem rows_head {xs : List (Int × Int)} {v : Int} (hn : NearB xs v) {q : Int × Int} {qs : List (Int × Int)} (hp : (q :: qs).Perm (rowsOf xs v)) (hs : (q :: qs).Pairwise LexLe) : ∃ x ∈ xs, x.2 ≠ v ∧ q = (absI (v - x.2), x.1) ∧ absI (v - x.2) ≤ 180 := by
  obtain ⟨x, hx, h1, h2⟩ := rows_mem (hp.mem_iff.mp List.mem_cons_self)
  refine ⟨x, hx, h1, h2, ?_⟩
  obtain ⟨y, hy, h3, h4⟩ := hn ⟨x, hx, h1⟩
  have hm : (absI (v - y.2), y.1) ∈ rowsOf xs v := List.mem_map.mpr ⟨y, List.mem_filter.mpr ⟨hy, by simpa using h3⟩, rfl⟩
  have h5 : absI (v - y.2) ≤ 180 := by unfold absI; split <;> omega
  rcases List.mem_cons.mp (hp.mem_iff.mpr hm) with e | e
  · rw [h2] at e
    have := congrArg Prod.fst e
    simp only at this
    omega
  · have := (List.pairwise_cons.mp hs).1 _ e
    unfold LexLe at this
    rw [h2] at this
    simp only at this
    omega
theorem absI_dvd {a b : Int} : absI a ∣ absI b ↔ a ∣ b := by
  unfold absI
  split <;> split <;> simp [Int.neg_dvd, Int.dvd_neg]
theorem absI_pos {a : Int} (h : a ≠ 0) : 1 ≤ absI a := by unfold absI; split <;> omega
/-- a place that fits stands a divisor of the difference away -/
theorem fits_far {xs : List (Int × Int)} {v z : Int} {x : Int × Int} (hx : x ∈ xs) (hne : x.2 ≠ v) (h : FitsAt xs v z) : 1 ≤ absI (z - x.1) ∧ absI (z - x.1) ∣ absI (v - x.2) ∧ (z = x.1 - absI (z - x.1) ∨ z = x.1 + absI (z - x.1)) := by
  have hd := h x hx
  have h0 : z - x.1 ≠ 0 := fun e => by
    rw [e, Int.zero_dvd] at hd
    omega
  refine ⟨absI_pos h0, absI_dvd.mpr hd, ?_⟩
  unfold absI
  split <;> omega
theorem done_step {B : Prop} {i : Nat} {z z0 a b : Int} (h : (i = 0 ∧ z0 = a) ∨ (i = 1 ∧ z0 = b)) : (B ∨ (1 ≤ i + 1 ∧ z = a) ∨ (2 ≤ i + 1 ∧ z = b)) ↔ ((B ∨ (1 ≤ i ∧ z = a) ∨ (2 ≤ i ∧ z = b)) ∨ z = z0) := by
  by_cases hB : B
  · simp [hB]
  · simp only [hB, false_or]
    omega
theorem done_last {B : Int → Prop} {ts : List Int} {t : Int} : (∃ u ∈ ts ++ [t], B u) ↔ (∃ u ∈ ts, B u) ∨ B t := by
  constructor
  · rintro ⟨u, hu, h⟩
    rcases List.mem_append.mp hu with hu | hu
    · exact .inl ⟨u, hu, h⟩
    · rw [List.mem_singleton.mp hu] at h; exact .inr h
  · rintro (⟨u, hu, h⟩ | h)
    · exact ⟨u, List.mem_append.mpr (.inl hu), h⟩
    · exact ⟨t, List.mem_append.mpr (.inr (List.mem_singleton.mpr rfl)), h⟩
def TPlacesBy : TSp := fun ds M Q _ => ∃ d xs v, ds = [d, .int v] ∧ LV M d (bookD xs) ∧ BookOk xs ∧ NearB xs v ∧
  ((∀ x ∈ xs, x.2 = v) → ∀ rest, Q .non (rest ++ M)) ∧
  ((∃ x ∈ xs, x.2 ≠ v) → ∀ (p : Addr) (ns : List Int) rest, ns.Pairwise (· < ·) → (∀ z, z ∈ ns ↔ FitsAt xs v z) → ns.length < 64 → Q (.cel p) ((p, .lst (ns.map D.int)) :: (rest ++ M)))
theorem TPlacesBy_mono : Mono TPlacesBy := fun ds M Q Q' E E' h _ ⟨a, b, c, h1, h2, h3, h4, h5, h6⟩ => ⟨a, b, c, h1, h2, h3, h4, fun z r => h _ _ (h5 z r), fun z p ns r h7 h8 h9 => h _ _ (h6 z p ns r h7 h8 h9)⟩
theorem TPlacesBy_len : ∀ ds M Q E, TPlacesBy ds M Q E → ds.length = 2 := fun ds M Q E h => by obtain ⟨_, _, _, rfl, _⟩ := h; rfl
section
variable {P : Program} {w : World} {K : PySem.W.Frag} {mg : Str → Option Value} {base : Heap}
local macro_rules
  | `(tactic| walk_at "ok") => `(tactic| first
  | ((show BlkOk N_places_by (defScope st_places_by) _ _); exact blkOk_by (by decide +kernel)))
  | `(tactic| walk_at "tS") => `(tactic| first
  | ((with_reducible refine gS "rows" ?_); refine ws_st 2 ?_)
  | ((with_reducible refine gS "found" ?_); refine ws_st 5 ?_))
  | `(tactic| walk_at "tG") => `(tactic| first
  | ((with_reducible refine gG "difference" ?_); refine wg_nm 3 ?_)
  | ((with_reducible refine gG "near" ?_); refine wg_nm 4 ?_)
  | ((with_reducible refine gG "far" ?_); refine wg_nm 6 ?_)
  | ((with_reducible refine gG "place" ?_); refine wg_nm 7 ?_)
  | ((with_reducible refine gG "own" ?_); refine wg_nm 8 ?_)
  | ((with_reducible refine gG "told" ?_); refine wg_nm 9 ?_))
  | `(tactic| walk_at "eWECall") => `(tactic| first
  | ((with_reducible show WE _ _ (Expr.Call (Expr.Name _ _) _ _ _) _ _ _); walk_at "c")
  | ((with_reducible refine gC "all" ?_); refine we_all rfl rfl (by assumption) ?_)
  | ((with_reducible refine gC "abs" ?_); refine we_abs rfl (by assumption) ?_))
  | `(tactic| walk_at "n") => `(tactic| first
  | ((with_reducible show WE _ _ (Expr.Name "TooLarge" _) _ _ _); refine we_glob (v := .ref _) rfl (by assumption) rfl (fun _ _ => .raw _) ?_))
local macro_rules
  | `(tactic| walk_at "n") => `(tactic| first
  | ((with_reducible refine gN "value" ?_); refine we_nm 1 rfl rfl ?_)
  | ((with_reducible refine gN "place" ?_); refine we_nm 7 rfl rfl ?_)
  | ((with_reducible refine gN "own" ?_); refine we_nm 8 rfl rfl ?_)
  | ((with_reducible refine gN "items" ?_); refine we_nm 0 rfl rfl ?_)
  | ((with_reducible refine gN "rows" ?_); refine we_nm 2 rfl rfl ?_)
  | ((with_reducible refine gN "difference" ?_); refine we_nm 3 rfl rfl ?_)
  | ((with_reducible refine gN "near" ?_); refine we_nm 4 rfl rfl ?_)
  | ((with_reducible refine gN "found" ?_); refine we_nm 5 rfl rfl ?_)
  | ((with_reducible refine gN "far" ?_); refine we_nm 6 rfl rfl ?_)
  | ((with_reducible refine gN "told" ?_); refine we_nm 9 rfl rfl ?_)
  | ((with_reducible show WE _ _ (Expr.Name "MOST_DIFFERENCE" _) _ _ _); refine we_globI rfl (by assumption) ?_))
  | `(tactic| walk_at "t") => `(tactic| first
  | ((with_reducible show WS _ _ (Stmt.Assign [Expr.Name _ _] _ _) _ _ _); walk_at "tS")
  | ((with_reducible show WG _ _ (Expr.Name _ _) _ _ _ _); walk_at "tG")
  | ((with_reducible show WS _ _ (Stmt.Assign [Expr.Tuple _ _ _] _ _) _ _ _); refine ws_asg ?_))
  | `(tactic| walk_at "c") => `(tactic| first
  | ((with_reducible refine gCK "divisors_in" ?_); refine we_cl "divisors_in" ?_)
  | ((with_reducible refine gCK "divides" ?_); refine we_cl "divides" ?_))
  | `(tactic| walk_at "tg") => `(tactic| first
  | exact Tg.two (i := 7) (j := 8) rfl rfl (by decide) rfl rfl
  | exact Tg.two (i := 9) (j := 8) rfl rfl (by decide) rfl rfl)
theorem fn_places_by {f : Addr} {fd : FuncData} (b_abs : mg "abs" = none) (b_all : mg "all" = none) (b_set : mg "set" = none) (b_sorted : mg "sorted" = none) (c1 : ∃ t, mg "MOST_DIFFERENCE" = some (.int 1000000000 t))
    (d_divs : FD P w K mg base 1 "divisors_in" 1 TDivisors) (d_div : FD P w K mg base 1 "divides" 2 TDivs) (Fn : L2.Fun K "places_by" "places_by" st_places_by f fd) :
    FnOk P w K mg base (L2.CX P w) 2 f fd ["items", "value"] (spG K TPlacesBy) := by
  refine fn_ok Fn sc_places_by rfl TPlacesBy_len ?_
  intro cdv A outer s H E N hr ds M Q X' h
  obtain ⟨d, xs, v, rfl, hl, hb, hn, q1, q2⟩ := h
  have hbl : (bookD xs).length = xs.length := by unfold bookD; rw [List.length_map]
  have hlen := hb.1
  show WB _ _ _ [some _, some _, none, none, none, none, none, none, none, none] _ _
  refine wb_cons ?_
  walk_at "t"
  refine we_sortedP rfl (by assumption) ?_
  refine we_froz 0 (we_lcF (kOwn v) (fOwn v) N (by walk_at "tg") (by walk_at "ok") (wi_list ?_))
  walk_at "g"
  refine ⟨_, hl, ?_, fun _ _ => hl.cons, ?_, ?_⟩
  · rw [hbl, sizeLine_eq]; omega
  · intro j d' acc p hd
    obtain ⟨y, hy, rfl⟩ := List.mem_map.mp (List.mem_of_getElem? hd)
    refine ⟨_, ⟨_, _, rfl, rfl⟩, fun B => ?_⟩
    walk_at "g"
    refine ⟨rfl, rfl, fun _ B => ?_⟩
    walk_at "g"
    exact ⟨rfl, rfl⟩
  · intro p
    refine ⟨p, _, rfl, rfl, ?_⟩
    refine ⟨rowsOf xs v, by rw [rows_D]; exact .l, fun qs hp hs => ?_⟩
    refine wb_cons ?_
    cases qs with
    | nil =>
      walk_at "g"
      refine req_d (p := .list []) (q := .list []) (.fz rfl) (.fz rfl) rfl rfl ?_
      refine ⟨_, rfl, iteP rfl ?_⟩
      walk_at "g"
      exact q1 (rows_nil.mp hp.symm.eq_nil) []
    | cons r qs =>
      obtain ⟨x, hx, hne, rfl, h180⟩ := rows_head hn hp hs
      have hpos : 1 ≤ absI (v - x.2) := absI_pos (by omega)
      walk_at "g"
      refine req_d (p := .list (pys ((absI (v - x.2), x.1) :: qs |>.map pD))) (q := .list []) (.fz (okDs_book _)) (.fz rfl) (shaped_book _) rfl ?_
      refine ⟨_, rfl, iteQ rfl ?_⟩
      walk_at "g"
      refine ⟨.tup [.int (absI (v - x.2)), .int x.1], atI_nat (j := 0) rfl, ?_⟩
      walk_at "g"
      refine iteQ (decide_eq_false (by omega)) ?_
      walk_at "g"
      refine we_setC N.calm rfl (by assumption) ?_
      refine we_lst ?_
      walk_at "g"
      refine ⟨[], .l, by decide, fun pf n0 hn0 => ?_⟩
      obtain rfl : n0 = 0 := by simpa using hn0
      refine wb_cons ?_
      refine ws_for N (wi_list ?_)
      walk_at "g"
      refine ⟨absI (v - x.2), rfl, hpos, by omega, fun pd dv rest hdv hsz => ?_⟩
      have hlt : dv.length < 30 := by
        refine Nat.not_le.mp fun h30 => ?_
        have : (30 : Int) * 30 ≤ (dv.length : Int) * dv.length := Int.mul_le_mul (by omega) (by omega) (by omega) (by omega)
        omega
      refine ⟨dv.map D.int, (LV.c 0 rfl).app rest, fun j δ' M' => ∃ (x6 x7 : Option D) (f : Int → Bool) (n : Nat) (rest' : Cells), δ' = [some d, some (.int v), some (.lst (pD (absI (v - x.2), x.1) :: qs.map pD)), some (.int (absI (v - x.2))), some (.int x.1), some (.cel pf), x6, x7, none, none] ∧
        M' = rest' ++ (pd, .lst (dv.map D.int)) :: (pf, .set w f n) :: M ∧ n ≤ 2 * j ∧ ∀ z, f z = true ↔ FitsAt xs v z ∧ ∃ t ∈ dv.take j, z = x.1 - t ∨ z = x.1 + t, ?_, ?_, ?_, ?_⟩
      · exact ⟨none, none, _, 0, rest, rfl, rfl, by omega, by simp⟩
      · rintro j δ' M' _ ⟨x6, x7, f, n, rest', rfl, rfl, hn1, hf⟩
        exact (LV.c 0 rfl).app rest'
      · rintro j d' δ' M' hd ⟨x6, x7, f, n, rest', rfl, rfl, hn1, hf⟩
        obtain ⟨t, ht, rfl⟩ : ∃ t, dv[j]? = some t ∧ d' = .int t := by
          rw [List.getElem?_map] at hd
          cases e : dv[j]? with
          | none => rw [e] at hd; cases hd
          | some t => rw [e] at hd; exact ⟨t, rfl, (Option.some.inj hd).symm⟩
        have hj := (List.getElem?_eq_some_iff.mp ht).1
        walk_at "s"
        refine wb_drop (List.sublist_append_right _ _) ?_
        refine wb_one (ws_for N (wi_tup ?_))
        walk_at "g"
        refine ⟨_, rfl, fun i δ' M' => ∃ (x7 : Option D) (f : Int → Bool) (n : Nat), δ' = [some d, some (.int v), some (.lst (pD (absI (v - x.2), x.1) :: qs.map pD)), some (.int (absI (v - x.2))), some (.int x.1), some (.cel pf), some (.int t), x7, none, none] ∧
          M' = (pd, .lst (dv.map D.int)) :: (pf, .set w f n) :: M ∧ n ≤ 2 * j + i ∧ ∀ z, f z = true ↔ FitsAt xs v z ∧ ((∃ t ∈ dv.take j, z = x.1 - t ∨ z = x.1 + t) ∨ (1 ≤ i ∧ z = x.1 - t) ∨ (2 ≤ i ∧ z = x.1 + t)), ?_, ?_, ?_, ?_⟩
        · exact ⟨x7, f, n, rfl, rfl, by omega, fun z => by rw [hf z]; simp⟩
        · exact fun _ _ _ _ _ => trivial
        · rintro i d2 δ' M' hd2 ⟨x7, f, n, rfl, rfl, hn2, hf2⟩
          obtain ⟨z0, rfl, hz0⟩ : ∃ z0, d2 = .int z0 ∧ ((i = 0 ∧ z0 = x.1 - t) ∨ (i = 1 ∧ z0 = x.1 + t)) := by
            match i, hd2 with
            | 0, h => exact ⟨_, (Option.some.inj h).symm, .inl ⟨rfl, rfl⟩⟩
            | 1, h => exact ⟨_, (Option.some.inj h).symm, .inr ⟨rfl, rfl⟩⟩
          walk_at "g"
          refine we_froz 0 (we_lcM (fitD v z0) N (by walk_at "tg") (by walk_at "ok") (wi_list ?_))
          walk_at "g"
          refine ⟨_, hl.cons.cons, by rw [hbl, sizeLine_eq]; omega, fun _ _ => hl.cons.cons.cons, ?_, ?_⟩
          · intro j' d3 acc p3 hd3
            obtain ⟨y, hy, rfl⟩ := List.mem_map.mp (List.mem_of_getElem? hd3)
            refine ⟨_, ⟨_, _, rfl, rfl⟩, fun B => ?_⟩
            walk_at "g"
            exact ⟨_, _, rfl, rfl, rfl⟩
          · intro p3
            refine ⟨p3, _, rfl, rfl, ?_⟩
            walk_at "g"
            refine ⟨_, _, rfl, by rw [fit_D]; exact .l, ?_⟩
            rw [fit_all]
            refine ⟨_, rfl, iteD (fun hfit => ?_) (fun hfit => ?_)⟩
            · refine wb_one (ws_expr (we_sadd ?_))
              walk_at "g"
              refine ⟨pf, rfl, ⟨1, f, n, rfl⟩, ?_⟩
              walk_at "g"
              refine ⟨z0, 1, f, n, rfl, rfl, by omega, ?_⟩
              refine ⟨_, _, _, rfl, rfl, by split <;> omega, fun z => ?_⟩
              rw [Bool.or_eq_true, hf2 z, decide_eq_true_iff, done_step hz0]
              constructor
              · rintro (⟨h1, h2⟩ | rfl)
                · exact ⟨h1, .inl h2⟩
                · exact ⟨hfit, .inr rfl⟩
              · rintro ⟨h1, h2 | h2⟩
                · exact .inl ⟨h1, h2⟩
                · exact .inr h2
            · walk_at "g"
              refine ⟨_, f, n, rfl, rfl, by omega, fun z => ?_⟩
              rw [hf2 z, done_step hz0]
              constructor
              · rintro ⟨h1, h2⟩
                exact ⟨h1, .inl h2⟩
              · rintro ⟨h1, h2 | h2⟩
                · exact ⟨h1, h2⟩
                · subst h2; exact absurd h1 hfit
        · rintro δ' M' ⟨x7, f, n, rfl, rfl, hn2, hf2⟩
          refine ⟨_, x7, f, n, [], rfl, rfl, by simpa [Nat.mul_add] using hn2, fun z => ?_⟩
          rw [hf2 z, List.take_add_one, ht]
          show _ ↔ _ ∧ ∃ u ∈ dv.take j ++ [t], z = x.1 - u ∨ z = x.1 + u
          rw [done_last (B := fun u => z = x.1 - u ∨ z = x.1 + u)]
          simp
      · rintro δ' M' ⟨x6, x7, f, n, rest', rfl, rfl, hn1, hf⟩
        refine wb_one (ws_ret (we_sortedS N.calm rfl (by assumption) ?_))
        walk_at "g"
        refine ⟨pf, rest'.length + 1, f, n, rfl, by rw [List.getElem?_append_right (Nat.le_succ _), show rest'.length.succ - rest'.length = 1 by omega]; rfl, by rw [List.length_map] at hn1; omega, fun ns p h1 h2 h3 => ?_⟩
        have := q2 ⟨x, hx, hne⟩ p ns (rest' ++ [(pd, .lst (dv.map D.int)), (pf, .set w f n)]) h1 (fun z => ?_) (by simp at hn1; omega)
        · rw [List.append_assoc] at this
          exact this
        · rw [h2 z, hf z]
          rw [List.take_of_length_le (by simp)]
          refine ⟨fun h => h.1, fun h => ⟨h, absI (z - x.1), (hdv _).mpr ?_, (fits_far hx hne h).2.2⟩⟩
          exact ⟨(fits_far hx hne h).1, (fits_far hx hne h).2.1⟩
end
/-! StandsC -/
def TPlacesFor : TSp := fun ds M Q _ => ∃ d xs v, ds = [d, .int v] ∧ LV M d (bookD xs) ∧ PossOk xs ∧ NearB xs v ∧
  ((∀ x ∈ xs, x.2 = v) → ∀ rest, Q .non (rest ++ M)) ∧
  ((∃ x ∈ xs, x.2 ≠ v) → ∀ (p : Addr) (ns : List Int) rest, ns.Pairwise (· < ·) → (∀ z, z ∈ ns ↔ FitsAt xs v z) → ns.length < 64 → Q (.cel p) ((p, .lst (ns.map D.int)) :: (rest ++ M)))
theorem TPlacesFor_len : ∀ ds M Q E, TPlacesFor ds M Q E → ds.length = 2 := fun ds M Q E h => by obtain ⟨_, _, _, rfl, _⟩ := h; rfl
def THas : TSp := fun ds M Q _ => ∃ d xs v, ds = [d, .int v] ∧ LV M d (bookD xs) ∧ PossOk xs ∧ NearB xs v ∧ ∀ b rest, (b = true ↔ ∃ z, FitsAt xs v z) → Q (.bl b) (rest ++ M)
theorem THas_len : ∀ ds M Q E, THas ds M Q E → ds.length = 2 := fun ds M Q E h => by obtain ⟨_, _, _, rfl, _⟩ := h; rfl
/-- z is the nearest to x of those, of two the lesser -/
def Nearest (S : Int → Prop) (x z : Int) : Prop := S z ∧ ∀ y, S y → absI (z - x) < absI (y - x) ∨ (absI (z - x) = absI (y - x) ∧ z ≤ y)
def fNear (x : Int) : D → D
  | .int z => pD (absI (x - z), z)
  | _ => .non
theorem near_D (x : Int) (ns : List Int) : (ns.map D.int).map (fNear x) = (ns.map fun z => (absI (x - z), z)).map pD := by
  rw [List.map_map, List.map_map]
  rfl
theorem absI_sub (a b : Int) : absI (a - b) = absI (b - a) := by unfold absI; split <;> split <;> omega
theorem near_head {S : Int → Prop} {x : Int} {ns : List Int} {r : Int × Int} {qs : List (Int × Int)} (hp : (r :: qs).Perm (ns.map fun z => (absI (x - z), z))) (hs : (r :: qs).Pairwise LexLe) (h2 : ∀ z, z ∈ ns ↔ S z) : Nearest S x r.2 := by
  obtain ⟨z, hz, rfl⟩ := List.mem_map.mp (hp.mem_iff.mp List.mem_cons_self)
  refine ⟨(h2 z).mp hz, fun y hy => ?_⟩
  have hm : (absI (x - y), y) ∈ ns.map fun z => (absI (x - z), z) := List.mem_map.mpr ⟨y, (h2 y).mpr hy, rfl⟩
  have e1 := absI_sub x z
  have e2 := absI_sub x y
  rcases List.mem_cons.mp (hp.mem_iff.mpr hm) with e | e
  · injection e with e3 e4
    subst e4
    right
    show absI (y - x) = absI (y - x) ∧ y ≤ y
    exact ⟨rfl, Int.le_refl _⟩
  · have := (List.pairwise_cons.mp hs).1 _ e
    unfold LexLe at this
    simp only at this
    show absI (z - x) < absI (y - x) ∨ (absI (z - x) = absI (y - x) ∧ z ≤ y)
    omega
/-- the nearest, or None where there is none -/
def NearD (S : Int → Prop) (x : Int) (d : D) : Prop := (d = .non ∧ ∀ z, ¬ S z) ∨ ∃ z, d = .int z ∧ Nearest S x z
def TNear : TSp := fun ds M Q _ => ∃ d xs v x, ds = [d, .int v, .int x] ∧ LV M d (bookD xs) ∧ PossOk xs ∧ NearB xs v ∧
  ((∀ y ∈ xs, y.2 = v) → ∀ rest, Q (.int x) (rest ++ M)) ∧
  ((∃ y ∈ xs, y.2 ≠ v) → ∀ rest d, NearD (FitsAt xs v) x d → Q d (rest ++ M))
theorem TNear_len : ∀ ds M Q E, TNear ds M Q E → ds.length = 3 := fun ds M Q E h => by obtain ⟨_, _, _, _, rfl, _⟩ := h; rfl
theorem fits_same {xs : List (Int × Int)} {v : Int} (h : ∀ x ∈ xs, x.2 = v) (z : Int) : FitsAt xs v z := fun x hx => by rw [h x hx, Int.sub_self]; exact Int.dvd_zero _
section
variable {P : Program} {w : World} {K : PySem.W.Frag} {mg : Str → Option Value} {base : Heap}
local macro_rules
  | `(tactic| walk_at "ok") => `(tactic| first
  | ((show BlkOk N_places_for (defScope st_places_for) _ _); exact blkOk_by (by decide +kernel)))
  | `(tactic| walk_at "eWECall") => `(tactic| first
  | ((with_reducible show WE _ _ (Expr.Call (Expr.Name _ _) _ _ _) _ _ _); walk_at "c"))
  | `(tactic| walk_at "n") => `(tactic| first
  | ((with_reducible refine gN "book" ?_); refine we_nm 0 rfl rfl ?_)
  | ((with_reducible refine gN "value" ?_); refine we_nm 1 rfl rfl ?_))
  | `(tactic| walk_at "t") => `(tactic| first
  | ((with_reducible show WS _ _ (Stmt.Assign [Expr.Tuple _ _ _] _ _) _ _ _); refine ws_asg ?_))
  | `(tactic| walk_at "c") => `(tactic| first
  | ((with_reducible refine gCK "need_possible" ?_); refine we_cl "need_possible" ?_)
  | ((with_reducible refine gCK "places_by" ?_); refine we_cl "places_by" ?_))
theorem fn_places_for {f : Addr} {fd : FuncData} (d_poss : FD P w K mg base 6 "need_possible" 1 TPoss) (d_by : FD P w K mg base 2 "places_by" 2 TPlacesBy) (Fn : L2.Fun K "places_for" "places_for" st_places_for f fd) :
    FnOk P w K mg base (L2.CX P w) 7 f fd ["book", "value"] (spG K TPlacesFor) := by
  refine fn_ok Fn sc_places_for rfl TPlacesFor_len ?_
  intro cdv A outer s H E N hr ds M Q X' h
  obtain ⟨d, xs, v, rfl, hl, hb, hn, q1, q2⟩ := h
  show WB _ _ _ [some _, some _] _ _
  refine wb_cons ?_
  walk_at "g"
  refine ⟨d, xs, rfl, hl, hb, ?_⟩
  walk_at "g"
  exact ⟨d, xs, v, rfl, hl, hb.1, hn, q1, q2⟩
end
section
variable {P : Program} {w : World} {K : PySem.W.Frag} {mg : Str → Option Value} {base : Heap}
local macro_rules
  | `(tactic| walk_at "ok") => `(tactic| first
  | ((show BlkOk N_has_place (defScope st_has_place) _ _); exact blkOk_by (by decide +kernel)))
  | `(tactic| walk_at "eWECall") => `(tactic| first
  | ((with_reducible show WE _ _ (Expr.Call (Expr.Name _ _) _ _ _) _ _ _); walk_at "c"))
  | `(tactic| walk_at "n") => `(tactic| first
  | ((with_reducible refine gN "book" ?_); refine we_nm 0 rfl rfl ?_)
  | ((with_reducible refine gN "value" ?_); refine we_nm 1 rfl rfl ?_))
  | `(tactic| walk_at "t") => `(tactic| first
  | ((with_reducible show WS _ _ (Stmt.Assign [Expr.Tuple _ _ _] _ _) _ _ _); refine ws_asg ?_))
  | `(tactic| walk_at "c") => `(tactic| first
  | ((with_reducible refine gCK "need_possible" ?_); refine we_cl "need_possible" ?_)
  | ((with_reducible refine gCK "places_by" ?_); refine we_cl "places_by" ?_))
theorem fn_has_place {f : Addr} {fd : FuncData} (d_poss : FD P w K mg base 6 "need_possible" 1 TPoss) (d_by : FD P w K mg base 2 "places_by" 2 TPlacesBy) (Fn : L2.Fun K "has_place" "has_place" st_has_place f fd) :
    FnOk P w K mg base (L2.CX P w) 7 f fd ["book", "value"] (spG K THas) := by
  refine fn_ok Fn sc_has_place rfl THas_len ?_
  intro cdv A outer s H E N hr ds M Q X' h
  obtain ⟨d, xs, v, rfl, hl, hb, hn, q⟩ := h
  show WB _ _ _ [some _, some _] _ _
  refine wb_cons ?_
  walk_at "g"
  refine ⟨d, xs, rfl, hl, hb, ?_⟩
  walk_at "g"
  refine ⟨d, xs, v, rfl, hl, hb.1, hn, fun ha rest => ?_, fun he p ns rest h1 h2 h3 => ?_⟩
  · walk_at "g"
    refine req_dN (p := .none) (q := .list []) (.fz rfl) (.fz rfl) rfl rfl ?_
    exact q _ rest (by simp [fits_same ha, PyData.eqv])
  · walk_at "g"
    refine req_dN (p := .list (pys (ns.map D.int))) (q := .list []) (.cl 0 rfl (okDs_ints ns)) (.fz rfl) (shaped_ints ns) rfl ?_
    have e : PyData.eqv (.list (pys (ns.map D.int))) (.list []) = decide (ns = []) := by cases ns <;> rfl
    rw [e]
    refine q _ ((p, .lst (ns.map D.int)) :: rest) ?_
    cases ns with
    | nil =>
      refine ⟨fun z => by simp at z, fun ⟨z, hz⟩ => ?_⟩
      have := (h2 z).mpr hz
      cases this
    | cons n ns => exact ⟨fun _ => ⟨n, (h2 n).mp List.mem_cons_self⟩, fun _ => by simp⟩
end
section
variable {P : Program} {w : World} {K : PySem.W.Frag} {mg : Str → Option Value} {base : Heap}
local macro_rules
  | `(tactic| walk_at "ok") => `(tactic| first
  | ((show BlkOk N_nearest_place (defScope st_nearest_place) _ _); exact blkOk_by (by decide +kernel)))
  | `(tactic| walk_at "tS") => `(tactic| first
  | ((with_reducible refine gS "places" ?_); refine ws_st 3 ?_)
  | ((with_reducible refine gS "rows" ?_); refine ws_st 4 ?_))
  | `(tactic| walk_at "tG") => `(tactic| first
  | ((with_reducible refine gG "one" ?_); refine wg_nm 5 ?_))
  | `(tactic| walk_at "eWECall") => `(tactic| first
  | ((with_reducible show WE _ _ (Expr.Call (Expr.Name _ _) _ _ _) _ _ _); walk_at "c")
  | ((with_reducible refine gC "abs" ?_); refine we_abs rfl (by assumption) ?_))
  | `(tactic| walk_at "n") => `(tactic| first
  | ((with_reducible refine gN "book" ?_); refine we_nm 0 rfl rfl ?_)
  | ((with_reducible refine gN "place" ?_); refine we_nm 2 rfl rfl ?_)
  | ((with_reducible refine gN "places" ?_); refine we_nm 3 rfl rfl ?_)
  | ((with_reducible refine gN "rows" ?_); refine we_nm 4 rfl rfl ?_)
  | ((with_reducible refine gN "one" ?_); refine we_nm 5 rfl rfl ?_)
  | ((with_reducible refine gN "value" ?_); refine we_nm 1 rfl rfl ?_))
  | `(tactic| walk_at "t") => `(tactic| first
  | ((with_reducible show WS _ _ (Stmt.Assign [Expr.Name _ _] _ _) _ _ _); walk_at "tS")
  | ((with_reducible show WG _ _ (Expr.Name _ _) _ _ _ _); walk_at "tG")
  | ((with_reducible show WS _ _ (Stmt.Assign [Expr.Tuple _ _ _] _ _) _ _ _); refine ws_asg ?_))
  | `(tactic| walk_at "c") => `(tactic| first
  | ((with_reducible refine gCK "need_possible" ?_); refine we_cl "need_possible" ?_)
  | ((with_reducible refine gCK "places_by" ?_); refine we_cl "places_by" ?_))
  | `(tactic| walk_at "tg") => `(tactic| first
  | exact Tg.one (i := 5) rfl rfl)
theorem fn_nearest_place {f : Addr} {fd : FuncData} (b_abs : mg "abs" = none) (b_sorted : mg "sorted" = none) (d_poss : FD P w K mg base 6 "need_possible" 1 TPoss) (d_by : FD P w K mg base 2 "places_by" 2 TPlacesBy) (Fn : L2.Fun K "nearest_place" "nearest_place" st_nearest_place f fd) :
    FnOk P w K mg base (L2.CX P w) 7 f fd ["book", "value", "place"] (spG K TNear) := by
  refine fn_ok Fn sc_nearest_place rfl TNear_len ?_
  intro cdv A outer s H E N hr ds M Q X' h
  obtain ⟨d, xs, v, x, rfl, hl, hb, hn, q1, q2⟩ := h
  show WB _ _ _ [some _, some _, some _, none, none, none] _ _
  refine wb_cons ?_
  walk_at "g"
  refine ⟨d, xs, rfl, hl, hb, ?_⟩
  walk_at "g"
  refine ⟨d, xs, v, rfl, hl, hb.1, hn, fun ha rest => ?_, fun he p ns rest h1 h2 h3 => ?_⟩
  · walk_at "g"
    exact q1 ha rest
  · walk_at "g"
    refine we_sortedP rfl (by assumption) ?_
    refine we_froz 0 (we_lcM (fNear x) N (by walk_at "tg") (by walk_at "ok") (wi_list ?_))
    walk_at "g"
    refine ⟨ns.map D.int, .c 0 rfl, ?_, fun _ _ => .c 1 rfl, ?_, ?_⟩
    · rw [List.length_map, sizeLine_eq]; omega
    · intro j d' acc p' hd
      obtain ⟨y, hy, rfl⟩ := List.mem_map.mp (List.mem_of_getElem? hd)
      refine ⟨_, rfl, fun B => ?_⟩
      walk_at "g"
      exact ⟨rfl, rfl⟩
    · intro p'
      refine ⟨p', _, rfl, rfl, ?_⟩
      refine ⟨ns.map fun z => (absI (x - z), z), by rw [near_D]; exact .l, fun qs hp hs => ?_⟩
      cases qs with
      | nil =>
        walk_at "g"
        refine req_dN (p := .list []) (q := .list []) (.fz rfl) (.fz rfl) rfl rfl ?_
        refine ⟨_, rfl, iteQ rfl ?_⟩
        walk_at "g"
        have e : ns = [] := List.map_eq_nil_iff.mp hp.symm.eq_nil
        subst e
        exact q2 he (_ :: rest) _ (.inl ⟨rfl, fun z hz => by
          have := (h2 z).mpr hz
          cases this⟩)
      | cons r qs =>
        walk_at "g"
        refine req_dN (p := .list (pys ((r :: qs).map pD))) (q := .list []) (.fz (okDs_book _)) (.fz rfl) (shaped_book _) rfl ?_
        refine ⟨_, rfl, iteP rfl ?_⟩
        walk_at "g"
        refine ⟨.tup [.int r.1, .int r.2], atI_nat (j := 0) rfl, ?_⟩
        walk_at "g"
        exact q2 he (_ :: rest) _ (.inr ⟨_, rfl, near_head hp hs h2⟩)
end
/-! ErA -/
set_option exponentiation.threshold 100000
def itAt (xs : List (Int × Int)) (i : Nat) : Int × Int := xs.getD i (0, 0)
theorem itAt_get {xs : List (Int × Int)} {i : Nat} (h : i < xs.length) : xs[i]? = some (itAt xs i) := by
  unfold itAt
  rw [List.getD_eq_getElem?_getD, List.getElem?_eq_getElem h]; rfl
def unfit (xs : List (Int × Int)) (i j : Nat) : Bool := !decide (Fit (itAt xs i) (itAt xs j))
def confRow (xs : List (Int × Int)) (i : Nat) : List (Nat × Nat) := (((List.range (xs.length - (i + 1))).map fun k => i + 1 + k).filter (unfit xs i)).map fun j => (i, j)
def confTo (xs : List (Int × Int)) : Nat → List (Nat × Nat)
  | 0 => []
  | n + 1 => confTo xs n ++ confRow xs n
def confs (xs : List (Int × Int)) : List (Nat × Nat) := confTo xs xs.length
def ij (p : Nat × Nat) : Int × Int := (p.1, p.2)
/-- as items -/
def confD (l : List (Nat × Nat)) : List D := bookD (l.map ij)
theorem confD_app (a b : List (Nat × Nat)) : confD (a ++ b) = confD a ++ confD b := by unfold confD bookD; rw [List.map_append, List.map_append]
theorem confRow_mem {xs : List (Int × Int)} {i a b : Nat} : (a, b) ∈ confRow xs i ↔ a = i ∧ i < b ∧ b < xs.length ∧ unfit xs i b = true := by
  unfold confRow
  constructor
  · intro h
    obtain ⟨j, hj, e⟩ := List.mem_map.mp h
    obtain ⟨h1, h2⟩ := List.mem_filter.mp hj
    obtain ⟨k, hk, rfl⟩ := List.mem_map.mp h1
    have := List.mem_range.mp hk
    cases e
    exact ⟨rfl, by omega, by omega, h2⟩
  · rintro ⟨rfl, h1, h2, h3⟩
    refine List.mem_map.mpr ⟨b, List.mem_filter.mpr ⟨List.mem_map.mpr ⟨b - (a + 1), List.mem_range.mpr (by omega), by omega⟩, h3⟩, rfl⟩
theorem confTo_mem {xs : List (Int × Int)} {a b : Nat} : ∀ n, (a, b) ∈ confTo xs n ↔ a < n ∧ a < b ∧ b < xs.length ∧ unfit xs a b = true
  | 0 => by simp [confTo]
  | n + 1 => by
    show (a, b) ∈ confTo xs n ++ confRow xs n ↔ _
    rw [List.mem_append, confTo_mem n, confRow_mem]
    constructor
    · rintro (⟨h1, h2⟩ | ⟨rfl, h2⟩)
      · exact ⟨by omega, h2⟩
      · exact ⟨by omega, h2⟩
    · rintro ⟨h1, h2⟩
      by_cases e : a = n
      · subst e; exact .inr ⟨rfl, h2⟩
      · exact .inl ⟨by omega, h2⟩
theorem confs_mem {xs : List (Int × Int)} {a b : Nat} : (a, b) ∈ confs xs ↔ a < b ∧ b < xs.length ∧ unfit xs a b = true := by
  unfold confs
  rw [confTo_mem]
  exact ⟨fun h => h.2, fun h => ⟨by omega, h⟩⟩
theorem Fit.symm' {x y : Int × Int} (h : Fit x y) : Fit y x := by
  have := Int.dvd_neg.mpr (Int.neg_dvd.mpr h)
  rwa [Int.neg_sub, Int.neg_sub] at this
theorem Fit.refl' (x : Int × Int) : Fit x x := by
  show (x.1 - x.1) ∣ (x.2 - x.2)
  rw [Int.sub_self, Int.sub_self]; exact Int.dvd_refl _
theorem confs_nil {xs : List (Int × Int)} : confs xs = [] ↔ ∀ x ∈ xs, ∀ y ∈ xs, Fit x y := by
  constructor
  · intro h x hx y hy
    obtain ⟨i, hi⟩ := List.getElem?_of_mem hx
    obtain ⟨j, hj⟩ := List.getElem?_of_mem hy
    have li := (List.getElem?_eq_some_iff.mp hi).1
    have lj := (List.getElem?_eq_some_iff.mp hj).1
    have ei : itAt xs i = x := Option.some.inj ((itAt_get li).symm.trans hi)
    have ej : itAt xs j = y := Option.some.inj ((itAt_get lj).symm.trans hj)
    have key : ∀ a b : Nat, a < b → b < xs.length → Fit (itAt xs a) (itAt xs b) := fun a b hab hb => by
      apply Decidable.byContradiction
      intro hn
      have : (a, b) ∈ confs xs := confs_mem.mpr ⟨hab, hb, by unfold unfit; rw [decide_eq_false hn]; rfl⟩
      rw [h] at this
      cases this
    rcases Nat.lt_trichotomy i j with g | g | g
    · rw [← ei, ← ej]; exact key i j g lj
    · subst g; rw [← ei, ← ej]; exact Fit.refl' _
    · rw [← ei, ← ej]; exact (key j i g li).symm'
  · intro h
    rw [List.eq_nil_iff_forall_not_mem]
    rintro ⟨a, b⟩ hab
    obtain ⟨h1, h2, h3⟩ := confs_mem.mp hab
    unfold unfit at h3
    rw [decide_eq_true (h _ (List.mem_of_getElem? (itAt_get (by omega))) _ (List.mem_of_getElem? (itAt_get h2)))] at h3
    cases h3
theorem confTo_len (xs : List (Int × Int)) : ∀ n, (confTo xs n).length ≤ n * xs.length
  | 0 => by simp [confTo]
  | n + 1 => by
    show (confTo xs n ++ confRow xs n).length ≤ _
    have a := confTo_len xs n
    have b : (confRow xs n).length ≤ xs.length := by
      unfold confRow
      rw [List.length_map]
      refine Nat.le_trans (List.length_filter_le ..) ?_
      rw [List.length_map, List.length_range]
      omega
    rw [List.length_append, Nat.add_mul, Nat.one_mul]
    omega
def TConfs : TSp := fun ds M Q _ => ∃ d xs, ds = [d] ∧ LV M d (bookD xs) ∧ xs.length ≤ 60 ∧ ∀ p rest, Q (.cel p) (rest ++ (p, .lst (confD (confs xs))) :: M)
theorem TConfs_mono : Mono TConfs := fun ds M Q Q' E E' h _ ⟨a, b, h1, h2, h3, h4⟩ => ⟨a, b, h1, h2, h3, fun p r => h _ _ (h4 p r)⟩
theorem TConfs_len : ∀ ds M Q E, TConfs ds M Q E → ds.length = 1 := fun ds M Q E h => by obtain ⟨_, _, rfl, _⟩ := h; rfl
def kUn (xs : List (Int × Int)) (i : Nat) : D → Bool
  | .int j => unfit xs i j.toNat
  | _ => false
def fPr (i : Nat) : D → D
  | .int j => .tup [.int (i : Nat), .int j]
  | _ => .non
theorem confRow_D (xs : List (Int × Int)) (i : Nat) : ((rangeD ((i : Int) + 1) (xs.length - (i + 1))).filter (kUn xs i)).map (fPr i) = confD (confRow xs i) := by
  unfold confRow confD bookD rangeD
  rw [List.filter_map, List.filter_map, List.map_map, List.map_map, List.map_map, List.map_map]
  have ef : (kUn xs i ∘ fun k : Nat => D.int ((i : Int) + 1 + (k : Nat))) = (unfit xs i ∘ fun k => i + 1 + k) := by
    funext k
    show unfit xs i ((i : Int) + 1 + (k : Nat)).toNat = unfit xs i (i + 1 + k)
    rw [show ((i : Int) + 1 + (k : Nat)).toNat = i + 1 + k by omega]
  have eg : (fPr i ∘ fun k : Nat => D.int ((i : Int) + 1 + (k : Nat))) = (itemD ∘ ij ∘ (fun j => (i, j)) ∘ fun k => i + 1 + k) := by
    funext k
    show D.tup [.int (i : Nat), .int ((i : Int) + 1 + (k : Nat))] = D.tup [.int ((i : Nat) : Int), .int ((i + 1 + k : Nat) : Int)]
    rw [show ((i : Int) + 1 + (k : Nat)) = ((i + 1 + k : Nat) : Int) by omega]
  rw [ef, eg]
  rfl
section
variable {P : Program} {w : World} {K : PySem.W.Frag} {mg : Str → Option Value} {base : Heap}
local macro_rules
  | `(tactic| walk_at "ok") => `(tactic| first
  | ((show BlkOk N_conflicts_in (defScope st_conflicts_in) _ _); exact blkOk_by (by decide +kernel)))
  | `(tactic| walk_at "tS") => `(tactic| first
  | ((with_reducible refine gS "found" ?_); refine ws_st 1 ?_))
  | `(tactic| walk_at "tG") => `(tactic| first
  | ((with_reducible refine gG "first" ?_); refine wg_nm 2 ?_)
  | ((with_reducible refine gG "one" ?_); refine wg_nm 3 ?_)
  | ((with_reducible refine gG "second" ?_); refine wg_nm 4 ?_))
  | `(tactic| walk_at "eWECall") => `(tactic| first
  | ((with_reducible refine gC "len" ?_); refine we_len rfl (by assumption) ?_)
  | ((with_reducible show WE _ _ (Expr.Call (Expr.Name _ _) _ _ _) _ _ _); walk_at "c"))
  | `(tactic| walk_at "n") => `(tactic| first
  | ((with_reducible refine gN "book" ?_); refine we_nm 0 rfl rfl ?_)
  | ((with_reducible refine gN "found" ?_); refine we_nm 1 rfl rfl ?_)
  | ((with_reducible refine gN "first" ?_); refine we_nm 2 rfl rfl ?_)
  | ((with_reducible refine gN "second" ?_); refine we_nm 4 rfl rfl ?_)
  | ((with_reducible refine gN "one" ?_); refine we_nm 3 rfl rfl ?_))
  | `(tactic| walk_at "t") => `(tactic| first
  | ((with_reducible show WS _ _ (Stmt.Assign [Expr.Name _ _] _ _) _ _ _); walk_at "tS")
  | ((with_reducible show WG _ _ (Expr.Name _ _) _ _ _ _); walk_at "tG")
  | ((with_reducible show WS _ _ (Stmt.Assign [Expr.Tuple _ _ _] _ _) _ _ _); refine ws_asg ?_))
  | `(tactic| walk_at "c") => `(tactic| first
  | ((with_reducible refine gCK "do_fit" ?_); refine we_cl "do_fit" ?_))
  | `(tactic| walk_at "tg") => `(tactic| first
  | exact Tg.one (i := 4) rfl rfl)
theorem fn_conflicts_inG {f : Addr} {fd : FuncData} (b_enum : mg "enumerate" = none) (b_range : mg "range" = none) (b_len : mg "len" = none) (d_fit : FD P w K mg base 2 "do_fit" 2 TFit) (Fn : L2.Fun K "conflicts_in" "conflicts_in" st_conflicts_in f fd) :
    FnOk P w K mg base (L2.CX P w) 3 f fd ["book"] (spG K TConfs) := by
  refine fn_ok Fn sc_conflicts_in rfl TConfs_len ?_
  intro cdv A outer s H E N hr ds M Q X' h
  obtain ⟨d, xs, rfl, hl, hb, q⟩ := h
  show WB _ _ _ [some _, none, none, none, none] _ _
  have hbl : (bookD xs).length = xs.length := by unfold bookD; rw [List.length_map]
  refine wb_cons ?_
  walk_at "t"
  refine we_lstC ?_
  walk_at "g"
  intro p
  walk_at "g"
  refine ws_for N (wi_enum rfl (by assumption) ?_)
  walk_at "g"
  refine ⟨_, bookD xs, rfl, hl.cons, fun j δ' M' => ∃ (x2 x3 x4 : Option D) (rest : Cells), δ' = [some d, some (.cel p), x2, x3, x4] ∧ M' = rest ++ (p, .lst (confD (confTo xs j))) :: M, ?_, ?_, ?_, ?_⟩
  · exact ⟨none, none, none, [], rfl, rfl⟩
  · rintro j δ' M' _ ⟨x2, x3, x4, rest, rfl, rfl⟩
    exact hl.cons.app rest
  · rintro j d' δ' M' hd ⟨x2, x3, x4, rest, rfl, rfl⟩
    obtain ⟨u, hu, rfl⟩ := enumD_inv hd
    unfold bookD at hu
    rw [List.getElem?_map] at hu
    cases e1 : xs[j]? with
    | none => rw [e1] at hu; cases hu
    | some x =>
      obtain rfl : u = itemD x := by rw [e1] at hu; exact (Option.some.inj hu).symm
      have hj := (List.getElem?_eq_some_iff.mp e1).1
      have ex : itAt xs j = x := Option.some.inj ((itAt_get hj).symm.trans e1)
      walk_at "s"
      walk_at "s"
      walk_at "t"
      walk_at "s"
      walk_at "t"
      walk_at "s"
      refine wb_drop (List.sublist_append_right _ _) ?_
      walk_at "g"
      refine we_extend ?_
      walk_at "g"
      refine we_lcF (kUn xs j) (fPr j) N (by walk_at "tg") (by walk_at "ok") (wi_range2 rfl (by assumption) ?_)
      walk_at "g"
      refine Sq.len (.inl ⟨rfl, hl.cons⟩) ?_
      walk_at "g"
      refine ⟨_, _, rfl, ⟨by omega, by omega, by omega, by omega⟩, ?_, fun _ _ => trivial, ?_, ?_⟩
      · rw [rangeD_len, hbl, sizeLine_eq]; omega
      · intro i d2 acc p' hd2
        obtain ⟨hi, rfl⟩ := rangeD_inv hd2
        rw [hbl] at hi
        have hi2 : j + 1 + i < xs.length := by omega
        have ey : (bookD xs)[j + 1 + i]? = some (itemD (itAt xs (j + 1 + i))) := by unfold bookD; rw [List.getElem?_map, itAt_get hi2]; rfl
        have en : (j : Int) + 1 + (i : Nat) = ((j + 1 + i : Nat) : Int) := by omega
        refine ⟨_, rfl, fun B => ?_⟩
        walk_at "g"
        refine Sq.ix (.inl ⟨rfl, hl.cons.cons⟩) (z := itemD (itAt xs (j + 1 + i))) (by rw [en]; exact atI_nat ey) ?_
        walk_at "g"
        refine ⟨x, itAt xs (j + 1 + i), rfl, ?_⟩
        walk_at "g"
        have eu : (!decide (Fit x (itAt xs (j + 1 + i)))) = kUn xs j (.int ((j : Int) + 1 + (i : Nat))) := by
          show _ = unfit xs j ((j : Int) + 1 + (i : Nat)).toNat
          rw [en]
          show _ = unfit xs j (j + 1 + i)
          unfold unfit
          rw [ex]
        refine ⟨rfl, eu, fun _ B => ?_⟩
        walk_at "g"
        exact ⟨rfl, rfl⟩
      · intro p'
        rw [hbl, show ((xs.length : Int) - ((j : Int) + 1)).toNat = xs.length - (j + 1) by omega, confRow_D]
        walk_at "g"
        have l1 := confTo_len xs j
        have l2 := confTo_len xs (j + 1)
        have l3 : (j + 1) * xs.length ≤ 60 * 60 := Nat.mul_le_mul (by omega) hb
        have l4 : (confTo xs (j + 1)).length = (confTo xs j).length + (confRow xs j).length := List.length_append
        have dl : ∀ l : List (Nat × Nat), (confD l).length = l.length := fun l => by unfold confD bookD; rw [List.length_map, List.length_map]
        refine ⟨p', 1, confD (confTo xs j), 0, confD (confRow xs j), rfl, rfl, by simp, ?_, ?_⟩
        · rw [dl, dl, sizeLine_eq]; omega
        walk_at "g"
        refine ⟨_, _, _, [(p', .lst (confD (confRow xs j)))], rfl, ?_⟩
        show _ = _ :: (p, Cell.lst (confD (confTo xs j ++ confRow xs j))) :: M
        rw [confD_app]
        rfl
  · rintro δ' M' ⟨x2, x3, x4, rest, rfl, rfl⟩
    rw [enumD_len, hbl]
    walk_at "g"
    exact q p rest
end
/-! ErB -/
set_option exponentiation.threshold 100000
/-- the least pair, or None -/
def leastD : List (Nat × Nat) → D
  | [] => .non
  | p :: _ => .tup [.int (p.1 : Nat), .int (p.2 : Nat)]
def TConfl : TSp := fun ds M Q _ => ∃ d xs, ds = [d] ∧ LV M d (bookD xs) ∧ xs.length ≤ 60 ∧ Q (leastD (confs xs)) M
theorem TConfl_mono : Mono TConfl := fun ds M Q Q' E E' h _ ⟨a, b, h1, h2, h3, h4⟩ => ⟨a, b, h1, h2, h3, h _ _ h4⟩
theorem TConfl_len : ∀ ds M Q E, TConfl ds M Q E → ds.length = 1 := fun ds M Q E h => by obtain ⟨_, _, rfl, _⟩ := h; rfl
section
variable {P : Program} {w : World} {K : PySem.W.Frag} {mg : Str → Option Value} {base : Heap}
local macro_rules
  | `(tactic| walk_at "ok") => `(tactic| first
  | ((show BlkOk N_conflict_in (defScope st_conflict_in) _ _); exact blkOk_by (by decide +kernel)))
  | `(tactic| walk_at "tS") => `(tactic| first
  | ((with_reducible refine gS "found" ?_); refine ws_st 1 ?_))
  | `(tactic| walk_at "eWECall") => `(tactic| first
  | ((with_reducible show WE _ _ (Expr.Call (Expr.Name _ _) _ _ _) _ _ _); walk_at "c"))
  | `(tactic| walk_at "n") => `(tactic| first
  | ((with_reducible refine gN "found" ?_); refine we_nm 1 rfl rfl ?_)
  | ((with_reducible refine gN "book" ?_); refine we_nm 0 rfl rfl ?_))
  | `(tactic| walk_at "t") => `(tactic| first
  | ((with_reducible show WS _ _ (Stmt.Assign [Expr.Name _ _] _ _) _ _ _); walk_at "tS")
  | ((with_reducible show WS _ _ (Stmt.Assign [Expr.Tuple _ _ _] _ _) _ _ _); refine ws_asg ?_))
  | `(tactic| walk_at "c") => `(tactic| first
  | ((with_reducible refine gCK "conflicts_in" ?_); refine we_cl "conflicts_in" ?_))
theorem fn_conflict_inG {f : Addr} {fd : FuncData} (d_conf : FD P w K mg base 3 "conflicts_in" 1 TConfs) (Fn : L2.Fun K "conflict_in" "conflict_in" st_conflict_in f fd) :
    FnOk P w K mg base (L2.CX P w) 4 f fd ["book"] (spG K TConfl) := by
  refine fn_ok Fn sc_conflict_in rfl TConfl_len ?_
  intro cdv A outer s H E N hr ds M Q X' h
  obtain ⟨d, xs, rfl, hl, hb, q⟩ := h
  show WB _ _ _ [some _, none] _ _
  refine wb_cons ?_
  walk_at "g"
  refine ⟨d, xs, rfl, hl, hb, fun p rest => ?_⟩
  refine wb_drop (List.sublist_append_right _ _) ?_
  refine wb_one (ws_ret (WE.few ?_))
  generalize confs xs = cs at *
  walk_at "g"
  refine req_dN (p := .list (pys (confD cs))) (q := .list []) (.cl (ds := confD cs) 0 rfl (okDs_book _)) (.fz rfl) (shaped_book _) rfl ?_
  cases cs with
  | nil =>
    refine ⟨_, rfl, iteQ rfl ?_⟩
    walk_at "g"
    exact ⟨M, List.sublist_cons_self _ _, q⟩
  | cons c cs =>
    refine ⟨_, rfl, iteP rfl ?_⟩
    walk_at "g"
    refine ⟨itemD (ij c), atI_nat (show (confD (c :: cs))[0]? = some (itemD (ij c)) from rfl), ?_⟩
    exact ⟨M, List.sublist_cons_self _ _, q⟩
end
section
variable {P : Program} {w : World} {K : PySem.W.Frag} {mg : Str → Option Value} {base : Heap}
theorem fn_unfit_init {f : Addr} {fd : FuncData} {C C0 : Addr} {mc : Value} (c : ExcI K mg "Unfit" C f ["first", "second"]) (b : BasI K mg "RestError" C0 mc) (Fn : L2.Fun K "__init__" "Unfit.__init__" st_Unfit___init__ f fd) :
    FnOk P w K mg base (L2.CX P w) 1 f fd ["self", "first", "second"] (spIni2 C "first" "second") := by
  refine Fn.okX sc_Unfit___init__ (fun vs H Q E ⟨a, v1, v2, e, _⟩ => by rw [e]; rfl) fun cdv A outer s H vs Q E hr h => ?_
  obtain ⟨a, v1, v2, rfl, ha, q⟩ := h
  refine ⟨_, pss_cons (ps_expr (pe_base_init rfl b.g b.a b.r b.v (pa_cons (pv 0) (pa_cons pe_str pa_nil)))) (pss_cons (ps_ost (pv 0) (pv 1)) (pss_one (ps_ost (pv 0) (pv 2)))), ?_⟩
  refine ⟨_, rfl, a, C, _, rfl, by simp, c.T, ha, ?_⟩
  refine ⟨_, rfl, _, rfl, a, C, rfl, c.T, c.no _ (by simp), .inl ⟨ha, fun dx hdx hne => ?_⟩⟩
  refine ⟨_, rfl, _, rfl, a, C, rfl, c.T, c.no _ (by simp), .inr ⟨dx, [("first", v1)], upd_same, ?_, by simp, q dx hdx hne⟩⟩
  rw [upd_ne hne, upd_same]
end
/-- Unfit of the least pair, unless all items fit -/
def TFitX (C : Addr) : TSp := fun ds M Q E => ∃ d xs, ds = [d] ∧ LV M d (bookD xs) ∧ xs.length ≤ 60 ∧ (confs xs = [] → Q .non M) ∧ ∀ i j r, confs xs = (i, j) :: r → E ⟨C, fsD [("second", (j : Int)), ("first", (i : Int))]⟩ M
theorem TFitX_mono (C : Addr) : Mono (TFitX C) := fun ds M Q Q' E E' h g ⟨a, b, h1, h2, h3, h4, h5⟩ => ⟨a, b, h1, h2, h3, fun z => h _ _ (h4 z), fun i j r z => g _ _ (h5 i j r z)⟩
theorem TFitX_len (C : Addr) : ∀ ds M Q E, TFitX C ds M Q E → ds.length = 1 := fun ds M Q E h => by obtain ⟨_, _, rfl, _⟩ := h; rfl
section
variable {P : Program} {w : World} {K : PySem.W.Frag} {mg : Str → Option Value} {base : Heap}
local macro_rules
  | `(tactic| walk_at "ok") => `(tactic| first
  | ((show BlkOk N_need_fitting (defScope st_need_fitting) _ _); exact blkOk_by (by decide +kernel)))
  | `(tactic| walk_at "tS") => `(tactic| first
  | ((with_reducible refine gS "conflict" ?_); refine ws_st 1 ?_))
  | `(tactic| walk_at "eWECall") => `(tactic| first
  | ((with_reducible show WE _ _ (Expr.Call (Expr.Name _ _) _ _ _) _ _ _); walk_at "c"))
  | `(tactic| walk_at "n") => `(tactic| first
  | ((with_reducible show WE _ _ (Expr.Name "Unfit" _) _ _ _); refine we_glob (v := .ref _) rfl (by assumption) rfl (fun _ _ => .raw _) ?_))
local macro_rules
  | `(tactic| walk_at "n") => `(tactic| first
  | ((with_reducible refine gN "conflict" ?_); refine we_nm 1 rfl rfl ?_)
  | ((with_reducible refine gN "book" ?_); refine we_nm 0 rfl rfl ?_))
  | `(tactic| walk_at "t") => `(tactic| first
  | ((with_reducible show WS _ _ (Stmt.Assign [Expr.Name _ _] _ _) _ _ _); walk_at "tS")
  | ((with_reducible show WS _ _ (Stmt.Assign [Expr.Tuple _ _ _] _ _) _ _ _); refine ws_asg ?_))
  | `(tactic| walk_at "c") => `(tactic| first
  | ((with_reducible refine gCK "conflict_in" ?_); refine we_cl "conflict_in" ?_))
theorem fn_need_fittingX {f fI : Addr} {fd fdI : FuncData} {C : Addr} (c : ExcI K mg "Unfit" C fI ["first", "second"]) (Fi : FnOk P w K mg base (L2.CX P w) 1 fI fdI ["self", "first", "second"] (spIni2 C "first" "second")) (hb : Binds K fdI ["self", "first", "second"] []) (d_conf : FD P w K mg base 4 "conflict_in" 1 TConfl) (Fn : L2.Fun K "need_fitting" "need_fitting" st_need_fitting f fd) :
    FnOk P w K mg base (L2.CX P w) 5 f fd ["book"] (spG K (TFitX C)) := by
  refine fn_ok Fn sc_need_fitting rfl (TFitX_len C) ?_
  intro cdv A outer s H E N hr ds M Q X' h
  obtain ⟨d, xs, rfl, hl, hlen, q1, q2⟩ := h
  show WB _ _ _ [some _, none] _ _
  refine wb_cons ?_
  walk_at "g"
  refine ⟨d, xs, rfl, hl, hlen, ?_⟩
  generalize confs xs = cs at *
  cases cs with
  | nil =>
    show WB _ _ _ [some _, some D.non] _ _
    walk_at "g"
    exact q1 rfl
  | cons p cs =>
    obtain ⟨i, j⟩ := p
    show WB _ _ _ [some _, some (.tup [.int (i : Nat), .int (j : Nat)])] _ _
    walk_at "g"
    refine ws_raise N ?_
    refine wm_ini2 c Fi hb (room_le hr (by decide)) rfl ?_
    walk_at "g"
    exact ⟨_, _, rfl, q2 i j cs rfl⟩
end
/-- the first error of a possible book, the book being one -/
def TPossX (C : Addr) : TSp := fun ds M Q E => ∃ d xs, ds = [d] ∧ LV M d (bookD xs) ∧ BookOk xs ∧ (confs xs = [] → Q .non M) ∧ ∀ i j r, confs xs = (i, j) :: r → E ⟨C, fsD [("second", (j : Int)), ("first", (i : Int))]⟩ M
theorem TPossX_len (C : Addr) : ∀ ds M Q E, TPossX C ds M Q E → ds.length = 1 := fun ds M Q E h => by obtain ⟨_, _, rfl, _⟩ := h; rfl
section
variable {P : Program} {w : World} {K : PySem.W.Frag} {mg : Str → Option Value} {base : Heap}
local macro_rules
  | `(tactic| walk_at "ok") => `(tactic| first
  | ((show BlkOk N_need_possible (defScope st_need_possible) _ _); exact blkOk_by (by decide +kernel)))
  | `(tactic| walk_at "eWECall") => `(tactic| first
  | ((with_reducible show WE _ _ (Expr.Call (Expr.Name _ _) _ _ _) _ _ _); walk_at "c"))
  | `(tactic| walk_at "n") => `(tactic| first
  | ((with_reducible refine gN "book" ?_); refine we_nm 0 rfl rfl ?_))
  | `(tactic| walk_at "t") => `(tactic| first
  | ((with_reducible show WS _ _ (Stmt.Assign [Expr.Tuple _ _ _] _ _) _ _ _); refine ws_asg ?_))
  | `(tactic| walk_at "c") => `(tactic| first
  | ((with_reducible refine gCK "need_book" ?_); refine we_cl "need_book" ?_)
  | ((with_reducible refine gCK "need_fitting" ?_); refine we_cl "need_fitting" ?_))
theorem fn_need_possibleX {f : Addr} {fd : FuncData} {C : Addr} (d_book : FD P w K mg base 5 "need_book" 1 TNeedBook) (d_fit : FD P w K mg base 5 "need_fitting" 1 (TFitX C)) (Fn : L2.Fun K "need_possible" "need_possible" st_need_possible f fd) :
    FnOk P w K mg base (L2.CX P w) 6 f fd ["book"] (spG K (TPossX C)) := by
  refine fn_ok Fn sc_need_possible rfl (TPossX_len C) ?_
  intro cdv A outer s H E N hr ds M Q X' h
  obtain ⟨d, xs, rfl, hl, hb, q1, q2⟩ := h
  have hlen := hb.1
  show WB _ _ _ [some _] _ _
  refine wb_cons ?_
  walk_at "g"
  refine ⟨d, xs, rfl, hl, hb, ?_⟩
  walk_at "g"
  refine ⟨d, xs, rfl, hl, by omega, fun z => ?_, q2⟩
  walk_at "g"
  exact q1 z
end
/-! BagP -/
def BagL (L : List D) : Prop := ∃ (cells : List Int) (i cur stir cnt : Int), L = [.lst (cells.map D.int), .int i, .int cur, .int stir, .int cnt] ∧ 0 ≤ i ∧ i ≤ cells.length ∧ (∀ c ∈ cells, 0 ≤ c ∧ c.natAbs < 2 ^ 2000) ∧ 0 ≤ cur ∧ cur.natAbs < 2 ^ 2000 ∧ 0 ≤ stir ∧ stir < 2147483647
/-- draws: wide from 1 on, below 2 ^ 2000 -/
def TDraw : TSp := fun ds M Q _ => ∃ (b : Addr) (k : Nat) (L : List D) (wide : Int), ds = [.cel b, .int wide] ∧ M[k]? = some (b, .lst L) ∧ BagL L ∧ 0 < wide ∧ wide.natAbs < 2 ^ 2000 ∧ ∀ r L', 0 ≤ r → r < wide → BagL L' → Q (.int r) (M.set k (b, .lst L'))
theorem TDraw_mono : Mono TDraw := fun ds M Q Q' E E' h _ ⟨b, k, L, wide, h1, h2, h3, h4, h5, h6⟩ => ⟨b, k, L, wide, h1, h2, h3, h4, h5, fun r L' a b c => h _ _ (h6 r L' a b c)⟩
theorem TDraw_len : ∀ ds M Q E, TDraw ds M Q E → ds.length = 2 := fun ds M Q E h => by obtain ⟨_, _, _, _, rfl, _⟩ := h; rfl
theorem set_self {α : Type} : ∀ {l : List α} {k : Nat} {x : α}, l[k]? = some x → l.set k x = l
  | [], _, _, h => by simp at h
  | y :: l, 0, x, h => by simp at h; simp [h]
  | y :: l, k + 1, x, h => by simp [set_self (l := l) (k := k) (by simpa using h)]
section
variable {P : Program} {w : World} {K : PySem.W.Frag} {mg : Str → Option Value} {base : Heap}
local macro_rules
  | `(tactic| walk_at "ok") => `(tactic| first
  | ((show BlkOk N_l_stirred (defScope st_l_stirred) _ _); exact blkOk_by (by decide +kernel)))
  | `(tactic| walk_at "tS") => `(tactic| first
  | ((with_reducible refine gS "_law_found" ?_); refine ws_st 2 ?_)
  | ((with_reducible refine gS "_law_mixed" ?_); refine ws_st 4 ?_))
  | `(tactic| walk_at "tG") => `(tactic| first
  | ((with_reducible refine gG "_law_k" ?_); refine wg_nm 3 ?_))
  | `(tactic| walk_at "eWECall") => `(tactic| first
  | ((with_reducible refine gC "int" ?_); refine we_int2 rfl (by assumption) ?_)
  | ((with_reducible show WE _ _ (Expr.Call (Expr.Attribute _ "bit_length" _) _ _ _) _ _ _); refine we_bits ?_))
  | `(tactic| walk_at "n") => `(tactic| first
  | ((with_reducible refine gN "_law_bag_here" ?_); refine we_nm 0 rfl rfl ?_)
  | ((with_reducible refine gN "_law_wide" ?_); refine we_nm 1 rfl rfl ?_)
  | ((with_reducible refine gN "_law_found" ?_); refine we_nm 2 rfl rfl ?_)
  | ((with_reducible show WE _ _ (Expr.Name "int" _) _ _ _); refine we_bltn (v := .ty "int") rfl (by assumption) (by decide +kernel) rfl ?_)
  | ((with_reducible refine gN "_law_mixed" ?_); refine we_nm 4 rfl rfl ?_))
  | `(tactic| walk_at "t") => `(tactic| first
  | ((with_reducible show WS _ _ (Stmt.Assign [Expr.Name _ _] _ _) _ _ _); walk_at "tS")
  | ((with_reducible show WG _ _ (Expr.Name _ _) _ _ _ _); walk_at "tG")
  | ((with_reducible show WS _ _ (Stmt.Assign [Expr.Tuple _ _ _] _ _) _ _ _); refine ws_asg ?_))
theorem fn_stirred {f : Addr} {fd : FuncData} (b_int : mg "int" = none) (b_range : mg "range" = none) (Fn : L2.Fun K "_law_stirred" "_law_stirred" st_l_stirred f fd) :
    FnOk P w K mg base (L2.CX P w) 1 f fd ["_law_bag_here", "_law_wide"] (spG K TDraw) := by
  refine fn_ok Fn sc_l_stirred rfl TDraw_len ?_
  intro cdv A outer s H E N hr ds M Q X' h
  obtain ⟨b, k, L, wide, rfl, hM, hL, hw, hw2, q⟩ := h
  obtain ⟨cells, i, cur, stir, cnt, rfl, hi0, hi1, hc, hcur0, hcur1, hs0, hs1⟩ := id hL
  show WB _ _ _ [some _, some _, none, none, none] _ _
  refine wb_cons ?_
  walk_at "g"
  refine ws_for N (wi_range1 rfl (by assumption) ?_)
  walk_at "g"
  rotate_left 1
  · exact ⟨by decide, by decide⟩
  have hb1 : Builtin.Int.intBits wide ≤ 2000 := intBits_le hw2
  have hb0 : (0 : Int) ≤ (Builtin.Int.intBits wide : Int) / 27 := by omega
  have hb2 : (Builtin.Int.intBits wide : Int) / 27 ≤ 75 := by omega
  refine ⟨by omega, by omega, fun j δ' M' => ∃ (found stir' cnt' : Int) (x3 x4 : Option D), δ' = [some (.cel b), some (.int wide), some (.int found), x3, x4] ∧ M' = M.set k (b, .lst [.lst (cells.map D.int), .int i, .int cur, .int stir', .int cnt']) ∧
    0 ≤ found ∧ found < 2 ^ (27 * j) ∧ 0 ≤ stir' ∧ stir' < 2147483647, ?_, fun _ _ _ _ _ => trivial, ?_, ?_⟩
  · refine ⟨0, stir, cnt, none, none, rfl, ?_, by omega, by decide, hs0, hs1⟩
    exact (set_self hM).symm
  · rintro j d δ' M' hd ⟨found, stir', cnt', x3, x4, rfl, rfl, hf0, hf1, hs0', hs1'⟩
    obtain ⟨hj, rfl⟩ := rangeD_inv hd
    have hj75 : j ≤ 75 := by omega
    walk_at "g"
    all_goals (first | exact IntMulOk.of_left (by decide) | exact IntMulOk.of_right (by decide) | exact ⟨by decide, by decide⟩ | exact ⟨by decide, by have := intBits_le (i := stir') (n := 31) (by omega); omega⟩ | decide | skip)
    have z0 := Int.emod_nonneg (stir' ^ Int.toNat 3 + 69621 * stir' + 1031 * (cnt' + 1) + 1) (show (2147483647 : Int) ≠ 0 by decide)
    have z1 := Int.emod_lt_of_pos (stir' ^ Int.toNat 3 + 69621 * stir' + 1031 * (cnt' + 1) + 1) (show (0 : Int) < 2147483647 by decide)
    refine ⟨_, _, _, _, _, rfl, rfl, ?_, ?_, z0, z1⟩
    · omega
    · have e : (2 : Int) ^ (27 * (j + 1)) = 2 ^ (27 * j) * 134217728 := by rw [Nat.mul_add, Int.pow_add]; rfl
      rw [e]
      omega
  · rintro δ' M' ⟨found, stir', cnt', x3, x4, rfl, rfl, hf0, hf1, hs0', hs1'⟩
    walk_at "g"
    any_goals exact hw
    exact q _ _ (Int.emod_nonneg _ (by omega)) (Int.emod_lt_of_pos _ hw) ⟨cells, i, cur, stir', cnt', rfl, hi0, hi1, hc, hcur0, hcur1, hs0', hs1'⟩
end
section
variable {P : Program} {w : World} {K : PySem.W.Frag} {mg : Str → Option Value} {base : Heap}
local macro_rules
  | `(tactic| walk_at "ok") => `(tactic| first
  | ((show BlkOk N_l_draw (defScope st_l_draw) _ _); exact blkOk_by (by decide +kernel)))
  | `(tactic| walk_at "tS") => `(tactic| first
  | ((with_reducible refine gS "_law_found" ?_); refine ws_st 2 ?_))
  | `(tactic| walk_at "eWECall") => `(tactic| first
  | ((with_reducible refine gC "int" ?_); refine we_int2 rfl (by assumption) ?_)
  | ((with_reducible refine gC "len" ?_); refine we_len rfl (by assumption) ?_)
  | ((with_reducible show WE _ _ (Expr.Call (Expr.Name _ _) _ _ _) _ _ _); walk_at "c"))
  | `(tactic| walk_at "n") => `(tactic| first
  | ((with_reducible refine gN "_law_bag_here" ?_); refine we_nm 0 rfl rfl ?_)
  | ((with_reducible refine gN "_law_wide" ?_); refine we_nm 1 rfl rfl ?_)
  | ((with_reducible refine gN "_law_found" ?_); refine we_nm 2 rfl rfl ?_)
  | ((with_reducible show WE _ _ (Expr.Name "int" _) _ _ _); refine we_bltn (v := .ty "int") rfl (by assumption) (by decide +kernel) rfl ?_))
  | `(tactic| walk_at "t") => `(tactic| first
  | ((with_reducible show WS _ _ (Stmt.Assign [Expr.Name _ _] _ _) _ _ _); walk_at "tS")
  | ((with_reducible show WS _ _ (Stmt.Assign [Expr.Tuple _ _ _] _ _) _ _ _); refine ws_asg ?_))
  | `(tactic| walk_at "c") => `(tactic| first
  | ((with_reducible refine gCK "_law_stirred" ?_); refine we_cl "_law_stirred" ?_))
theorem fn_draw {f : Addr} {fd : FuncData} (b_len : mg "len" = none) (b_int : mg "int" = none) (d_stirred : FD P w K mg base 1 "_law_stirred" 2 TDraw) (Fn : L2.Fun K "_law_draw" "_law_draw" st_l_draw f fd) :
    FnOk P w K mg base (L2.CX P w) 2 f fd ["_law_bag_here", "_law_wide"] (spG K TDraw) := by
  refine fn_ok Fn sc_l_draw rfl TDraw_len ?_
  intro cdv A outer s H E N hr ds M Q X' h
  obtain ⟨b, k, L, wide, rfl, hM, hL, hw, hw2, q⟩ := h
  obtain ⟨cells, i, cur, stir, cnt, rfl, hi0, hi1, hc, hcur0, hcur1, hs0, hs1⟩ := id hL
  show WB _ _ _ [some _, some _, none] _ _
  refine wb_cons ?_
  walk_at "g"
  have fin : ∀ (i cur : Int), 0 ≤ i → i ≤ cells.length → 0 ≤ cur → cur.natAbs < 2 ^ 2000 → Q (.int (cur % wide)) (M.set k (b, .lst [.lst (cells.map D.int), .int i, .int (cur / wide), .int stir, .int cnt])) := by
    intro i cur hi0 hi1 hcur0 hcur1
    refine q _ _ (Int.emod_nonneg _ (by omega)) (Int.emod_lt_of_pos _ hw) ⟨cells, i, _, stir, cnt, rfl, hi0, hi1, hc, Int.ediv_nonneg hcur0 (by omega), ?_, hs0, hs1⟩
    have h1 := Int.ediv_nonneg hcur0 (show (0 : Int) ≤ wide by omega)
    have h2 := Int.ediv_le_self wide hcur0
    exact Nat.lt_of_le_of_lt (by show (cur / wide).natAbs ≤ cur.natAbs; omega) hcur1
  have cw : ∀ cur, CDivW cur wide := fun cur => ⟨hw, Nat.lt_of_lt_of_le (log2_lt hw2 (by decide)) (by decide)⟩
  refine iteD (fun h0 => ?_) (fun h0 => ?_)
  · walk_at "g"
    rw [List.length_map]
    refine iteD (fun h1 => ?_) (fun h1 => ?_)
    · obtain ⟨n, rfl⟩ := Int.eq_ofNat_of_zero_le hi0
      have hn : n < cells.length := by exact_mod_cast h1
      have hcn := hc _ (List.getElem_mem hn)
      walk_at "g"
      refine ⟨.int cells[n], atI_nat (by simp [hn]), ?_⟩
      walk_at "g"
      rotate_left 1
      · exact cw _
      · exact hw
      have z := fin ((n : Int) + 1) cells[n] (by omega) (by omega) hcn.1 hcn.2
      exact z
    · walk_at "g"
      refine iteD (fun _ => ?_) (fun z => absurd h0 z)
      walk_at "g"
      exact ⟨b, k, _, wide, rfl, hM, hL, hw, hw2, q⟩
  · walk_at "g"
    refine iteD (fun z => absurd z h0) (fun _ => ?_)
    walk_at "g"
    rotate_left 1
    · exact cw _
    · exact hw
    exact fin i cur hi0 hi1 hcur0 hcur1
end
theorem cutD_int (ns : List Int) (l u : Option Int) : ∃ ms : List Int, cutD (ns.map D.int) l u = ms.map D.int ∧ ms.length ≤ ns.length := by
  refine ⟨(ns.drop (HT.sIx ns.length 0 l)).take (HT.sIx ns.length ns.length u - HT.sIx ns.length 0 l), ?_, ?_⟩
  · unfold cutD
    rw [List.length_map, ← List.map_drop, ← List.map_take]
  · rw [List.length_take, List.length_drop]; omega
/-- the bag of a script -/
def TBag : TSp := fun ds M Q _ => ∃ ns : List Int, ds = [.lst (ns.map D.int)] ∧ ns.length ≤ 1000 ∧ ∀ p L, BagL L → Q (.cel p) ((p, .lst L) :: M)
theorem TBag_mono : Mono TBag := fun ds M Q Q' E E' h _ ⟨ns, h1, h2, h3⟩ => ⟨ns, h1, h2, fun p L a => h _ _ (h3 p L a)⟩
theorem TBag_len : ∀ ds M Q E, TBag ds M Q E → ds.length = 1 := fun ds M Q E h => by obtain ⟨_, rfl, _⟩ := h; rfl
def fBag : D → D | .int c => .int ((if c < 0 then -c else c) % (10 ^ 60) ^ 10) | d => d
section
variable {P : Program} {w : World} {K : PySem.W.Frag} {mg : Str → Option Value} {base : Heap}
local macro_rules
  | `(tactic| walk_at "ok") => `(tactic| first
  | ((show BlkOk N_l_bag (defScope st_l_bag) _ _); exact blkOk_by (by decide +kernel)))
  | `(tactic| walk_at "tS") => `(tactic| first
  | ((with_reducible refine gS "_law_stir" ?_); refine ws_st 1 ?_))
  | `(tactic| walk_at "tG") => `(tactic| first
  | ((with_reducible refine gG "_law_cell" ?_); refine wg_nm 2 ?_))
  | `(tactic| walk_at "eWECall") => `(tactic| first
  | ((with_reducible refine gC "int" ?_); refine we_int2 rfl (by assumption) ?_)
  | ((with_reducible refine gC "abs" ?_); refine we_abs rfl (by assumption) ?_))
  | `(tactic| walk_at "n") => `(tactic| first
  | ((with_reducible show WE _ _ (Expr.Name "int" _) _ _ _); refine we_bltn (v := .ty "int") rfl (by assumption) (by decide +kernel) rfl ?_)
  | ((with_reducible refine gN "_law_script" ?_); refine we_nm 0 rfl rfl ?_)
  | ((with_reducible refine gN "_law_stir" ?_); refine we_nm 1 rfl rfl ?_)
  | ((with_reducible refine gN "_law_cell" ?_); refine we_nm 2 rfl rfl ?_))
  | `(tactic| walk_at "t") => `(tactic| first
  | ((with_reducible show WS _ _ (Stmt.Assign [Expr.Name _ _] _ _) _ _ _); walk_at "tS")
  | ((with_reducible show WG _ _ (Expr.Name _ _) _ _ _ _); walk_at "tG")
  | ((with_reducible show WS _ _ (Stmt.Assign [Expr.Tuple _ _ _] _ _) _ _ _); refine ws_asg ?_))
  | `(tactic| walk_at "tg") => `(tactic| first
  | exact Tg.one (i := 2) rfl rfl)
theorem fn_bag {f : Addr} {fd : FuncData} (b_int : mg "int" = none) (b_abs : mg "abs" = none) (Fn : L2.Fun K "_law_bag" "_law_bag" st_l_bag f fd) :
    FnOk P w K mg base (L2.CX P w) 1 f fd ["_law_script"] (spG K TBag) := by
  refine fn_ok Fn sc_l_bag rfl TBag_len ?_
  intro cdv A outer s H E N hr ds M Q X' h
  obtain ⟨ns, rfl, hns, q⟩ := h
  obtain ⟨ms, hms, hml⟩ := cutD_int ns none (some 63)
  show WB _ _ _ [some _, none, none] _ _
  refine wb_cons ?_
  walk_at "g"
  refine ws_for N (wi_list ?_)
  walk_at "g"
  refine ⟨_, .l, ?_⟩
  rw [hms]
  refine ⟨fun j δ' M' => ∃ (stir : Int) (x2 : Option D), δ' = [some (.lst (ns.map D.int)), some (.int stir), x2] ∧ M' = M ∧ 0 ≤ stir ∧ stir < 2147483647, ?_, ?_, ?_, ?_⟩
  · exact ⟨179, none, rfl, rfl, by decide, by decide⟩
  · rintro j δ' M' hj ⟨stir, x2, rfl, rfl, h0, h1⟩
    exact .l
  · rintro j d δ' M' hd ⟨stir, x2, rfl, rfl, h0, h1⟩
    obtain ⟨c, rfl⟩ : ∃ c, d = .int c := by
      rw [List.getElem?_map] at hd
      cases e : ms[j]? with
      | none => rw [e] at hd; cases hd
      | some c => rw [e] at hd; cases hd; exact ⟨c, rfl⟩
    walk_at "g"
    all_goals (first | exact IntMulOk.of_right (by decide) | decide | skip)
    refine ⟨_, _, rfl, rfl, Int.emod_nonneg _ (by decide), Int.emod_lt_of_pos _ (by decide)⟩
  · rintro δ' M' ⟨stir, x2, rfl, rfl, h0, h1⟩
    walk_at "g"
    refine we_lstC (wa_cons (we_froz 0 (we_lcM fBag N (by walk_at "tg") (by walk_at "ok") (wi_list ?_))))
    walk_at "g"
    refine ⟨_, .l, ?_⟩
    rw [hms]
    refine ⟨?_, fun _ _ => .l, ?_, ?_⟩
    · rw [List.length_map]
      exact Nat.le_trans hml (Nat.le_trans hns (by decide))
    · intro i d acc p hd
      obtain ⟨c, rfl⟩ : ∃ c, d = .int c := by
        rw [List.getElem?_map] at hd
        cases e : ms[i]? with
        | none => rw [e] at hd; cases hd
        | some c => rw [e] at hd; cases hd; exact ⟨c, rfl⟩
      refine ⟨_, rfl, fun B => ?_⟩
      walk_at "g"
      all_goals (first | exact ⟨rfl, rfl⟩ | exact ⟨by decide, by decide⟩ | decide | skip)
    · intro p
      refine ⟨p, _, rfl, rfl, ?_⟩
      walk_at "g"
      refine fun p' => q p' _ ⟨ms.map fun c => (if c < 0 then -c else c) % (10 ^ 60) ^ 10, 0, 0, stir, 0, by rw [List.map_map, List.map_map]; rfl, by decide, by omega, ?_, by decide, by decide, h0, h1⟩
      intro c hc
      obtain ⟨c, _, rfl⟩ := List.mem_map.mp hc
      have z0 := Int.emod_nonneg (if c < 0 then -c else c) (show ((10 : Int) ^ 60) ^ 10 ≠ 0 by decide)
      have z1 := Int.emod_lt_of_pos (if c < 0 then -c else c) (show (0 : Int) < ((10 : Int) ^ 60) ^ 10 by decide)
      refine ⟨z0, ?_⟩
      have e : ((10 : Int) ^ 60) ^ 10 < ((2 ^ 2000 : Nat) : Int) := by decide
      omega
end
section
variable {P : Program} {w : World} {K : PySem.W.Frag} {mg : Str → Option Value} {base : Heap}
local macro_rules
  | `(tactic| walk_at "ok") => `(tactic| first
  | ((show BlkOk N_l_alike (defScope st_l_alike) _ _); exact blkOk_by (by decide +kernel)))
  | `(tactic| walk_at "tG") => `(tactic| first
  | ((with_reducible refine gG "_law_k" ?_); refine wg_nm 2 ?_))
  | `(tactic| walk_at "eWECall") => `(tactic| first
  | ((with_reducible refine gC "isinstance" ?_); refine we_isi rfl (by assumption) ?_)
  | ((with_reducible refine gC "all" ?_); refine we_all rfl rfl (by assumption) ?_)
  | ((with_reducible refine gC "len" ?_); refine we_len rfl (by assumption) ?_)
  | ((with_reducible show WE _ _ (Expr.Call (Expr.Name _ _) _ _ _) _ _ _); walk_at "c"))
  | `(tactic| walk_at "n") => `(tactic| first
  | ((with_reducible refine gN "_law_due" ?_); refine we_nm 1 rfl rfl ?_)
  | ((with_reducible refine gN "_law_found" ?_); refine we_nm 0 rfl rfl ?_)
  | ((with_reducible show WE _ _ (Expr.Name "list" _) _ _ _); refine we_bltn (v := .ty "list") rfl (by assumption) (by decide +kernel) rfl ?_)
  | ((with_reducible refine gN "_law_k" ?_); refine we_nm 2 rfl rfl ?_)
  | ((with_reducible show WE _ _ (Expr.Name "int" _) _ _ _); refine we_bltn (v := .ty "int") rfl (by assumption) (by decide +kernel) rfl ?_)
  | ((with_reducible show WE _ _ (Expr.Name "bool" _) _ _ _); refine we_bltn (v := .ty "bool") rfl (by assumption) (by decide +kernel) rfl ?_)
  | ((with_reducible show WE _ _ (Expr.Name "str" _) _ _ _); refine we_bltn (v := .ty "str") rfl (by assumption) (by decide +kernel) rfl ?_)
  | ((with_reducible show WE _ _ (Expr.Name "tuple" _) _ _ _); refine we_bltn (v := .ty "tuple") rfl (by assumption) (by decide +kernel) rfl ?_))
  | `(tactic| walk_at "t") => `(tactic| first
  | ((with_reducible show WG _ _ (Expr.Name _ _) _ _ _ _); walk_at "tG")
  | ((with_reducible show WS _ _ (Stmt.Assign [Expr.Tuple _ _ _] _ _) _ _ _); refine ws_asg ?_))
  | `(tactic| walk_at "c") => `(tactic| first
  | ((with_reducible refine gCK "_law_alike" ?_); refine we_cl "_law_alike" ?_))
  | `(tactic| walk_at "tg") => `(tactic| first
  | exact Tg.one (i := 2) rfl rfl)
theorem fn_alike {f : Addr} {fd : FuncData} (b_isi : mg "isinstance" = none) (b_len : mg "len" = none) (b_all : mg "all" = none) (b_range : mg "range" = none) (b_bool : mg "bool" = none) (b_int : mg "int" = none) (b_str : mg "str" = none) (b_list : mg "list" = none) (b_tuple : mg "tuple" = none)
    (Fn : L2.Fun K "_law_alike" "_law_alike" st_l_alike f fd) (k n : Nat) (d_alike : ∀ m, n = m + 1 → FD P w K mg base k "_law_alike" 2 (TAlk m)) :
    FnOk P w K mg base (L2.CX P w) (k + 1) f fd ["_law_found", "_law_due"] (spG K (TAlk n)) := by
  refine fn_ok Fn sc_l_alike rfl (TAlk_len n) ?_
  intro cdv A outer s H E N hr ds M Q X' h
  obtain ⟨d, e, rfl, ha, q⟩ := h
  show WB _ _ _ [some _, some _, none] _ _
  refine wb_cons ?_
  cases ha with
  | non =>
    walk_at "g"
    refine req_n ?_
    exact q
  | int i =>
    walk_at "g"
    rw [decide_eq_true rfl]
    exact q
  | bl i =>
    walk_at "g"
    rw [decide_eq_true rfl]
    exact q
  | str i =>
    walk_at "g"
    rw [decide_eq_true rfl]
    exact q
  | @seq m _ _ t ds es h1 h2 hl hz ha =>
    have ht : t = "list" ∨ t = "tuple" := h1.elim (fun z => .inl z.1) fun z => .inr z.1
    have hb : (isT t "list" || isT t "tuple") = true := by rcases ht with rfl | rfl <;> decide
    have dl := d_alike m rfl
    walk_at "g"
    refine isi2 h2.ty (by decide) (by decide) hb ?_
    walk_at "g"
    refine isi2 h1.ty (by decide) (by decide) hb ?_
    walk_at "g"
    refine isi1 h1.ty (by decide) rfl ?_
    walk_at "g"
    refine isi1 h2.ty (by decide) rfl ?_
    walk_at "g"
    refine iteQ (by simp) ?_
    walk_at "g"
    refine h1.len ?_
    walk_at "g"
    refine h2.len ?_
    walk_at "g"
    refine iteQ (by simp [hl]) ?_
    walk_at "g"
    refine we_froz 0 (we_lcM (fun _ => .bl true) N (by walk_at "tg") (by walk_at "ok") (wi_range1 rfl (by assumption) ?_))
    walk_at "g"
    refine h2.len ?_
    walk_at "g"
    refine ⟨by omega, by omega, ?_, fun _ _ => trivial, ?_, ?_⟩
    · rw [rangeD_len, Int.toNat_natCast]
      exact Nat.le_trans hz (by decide)
    · intro i x acc p hd
      obtain ⟨hi, rfl⟩ := rangeD_inv hd
      rw [Int.toNat_natCast] at hi
      refine ⟨_, rfl, fun B => ?_⟩
      have e1 : ds[i]? = some (ds[i]'(by omega)) := List.getElem?_eq_getElem _
      have e2 : es[i]? = some (es[i]'hi) := List.getElem?_eq_getElem _
      walk_at "g"
      refine h1.cons.ix (by rw [Int.zero_add]; exact atI_nat e1) ?_
      walk_at "g"
      refine h2.cons.ix (by rw [Int.zero_add]; exact atI_nat e2) ?_
      walk_at "g"
      exact ⟨_, _, rfl, (ha i _ _ e1 e2).cons, rfl, rfl⟩
    · intro p
      refine ⟨p, _, rfl, rfl, ?_⟩
      walk_at "g"
      refine ⟨_, List.replicate es.length true, rfl, ?_, ?_⟩
      · rw [show (List.map D.bl (List.replicate es.length true)) = List.map (fun _ => D.bl true) (rangeD 0 (↑es.length : Int).toNat) from by
          rw [Int.toNat_natCast, List.map_replicate, List.map_const', rangeD_len]]
        exact .l
      · have e : (List.replicate es.length true).all id = true := by simp
        rw [e]
        exact q
end
/-! NbA -/
abbrev Bk := List (Int × Int)
/-- the books behind all calls that hold -/
abbrev statesD (ss : List Bk) : D := .lst (ss.map fun b => D.lst (bookD b))
def NbF (ss : List Bk) : List (Str × D) := [("notebook_states", statesD ss)]
/-- Notebook() -/
def TInit (C : Addr) : TSp := fun ds M Q _ => ∃ (a : Addr) (k : Nat) (dx : Addr), ds = [.cel a] ∧ M[k]? = some (a, Cell.ins C dx []) ∧ Q .non (M.set k (a, Cell.ins C dx (NbF [[]])))
theorem TInit_mono (C : Addr) : Mono (TInit C) := fun ds M Q Q' E E' h _ ⟨a, k, dx, h1, h2, h3⟩ => ⟨a, k, dx, h1, h2, h _ _ h3⟩
theorem TInit_len (C : Addr) : ∀ ds M Q E, TInit C ds M Q E → ds.length = 1 := fun ds M Q E h => by obtain ⟨_, _, _, rfl, _⟩ := h; rfl
section
variable {P : Program} {w : World} {K : PySem.W.Frag} {mg : Str → Option Value} {base : Heap}
local macro_rules
  | `(tactic| walk_at "ok") => `(tactic| first
  | ((show BlkOk N_Notebook___init__ (defScope st_Notebook___init__) _ _); exact blkOk_by (by decide +kernel)))
  | `(tactic| walk_at "t") => `(tactic| first
  | ((with_reducible show WS _ _ (Stmt.Assign [Expr.Attribute _ "notebook_states" _] _ _) _ _ _); refine ws_fld ?_))
  | `(tactic| walk_at "n") => `(tactic| first
  | ((with_reducible refine gN "self" ?_); refine we_nm 0 rfl rfl ?_))
local macro_rules | `(tactic| walk_at "t") => `(tactic| first
  | ((with_reducible show WS _ _ (Stmt.Assign [Expr.Tuple _ _ _] _ _) _ _ _); refine ws_asg ?_))
theorem fn_nb_init {f : Addr} {fd : FuncData} {C : Addr} (c : ObC K C ["notebook_states"]) (Fn : L2.Fun K "__init__" "Notebook.__init__" st_Notebook___init__ f fd) :
    FnOk P w K mg base (L2.CX P w) 1 f fd ["self"] (spG K (TInit C)) := by
  refine fn_ok Fn sc_Notebook___init__ rfl (TInit_len C) ?_
  intro cdv A outer s H E N hr ds M Q X' h
  obtain ⟨a, k, dx, rfl, hk, q⟩ := h
  show WB _ _ _ [some _] _ _
  refine wb_one ?_
  walk_at "g"
  refine we_lst ?_
  walk_at "g"
  refine we_lst ?_
  walk_at "g"
  refine ⟨a, k, C, dx, [], rfl, hk, c.c, c.n _ (by simp), by decide, ?_⟩
  exact q
end
/-! OdA -/
def Flat1 : D → Prop
  | .int _ | .bl _ | .non | .str _ | .lst _ | .tup _ => True
  | _ => False
def isIntD : D → Bool
  | .int _ => true
  | _ => false
def toldD : D → Bool
  | .int i => decide (-1000000000000000000000000000000 ≤ i) && decide (i ≤ 1000000000000000000000000000000)
  | _ => false
def itemOkD : D → Bool
  | .tup [a, b] => toldD a && toldD b
  | _ => false
def ItemK (d : D) : Prop := (∃ xs, d = .tup xs ∧ ∀ x ∈ xs, Flat1 x) ∨ ∃ xs, d = .lst xs
def TIntX : TSp := fun ds M Q _ => ∃ d, ds = [d] ∧ Flat1 d ∧ Q (.bl (isIntD d)) M
theorem TIntX_mono : Mono TIntX := fun ds M Q Q' E E' h _ ⟨i, h1, h2, h3⟩ => ⟨i, h1, h2, h _ _ h3⟩
theorem TIntX_len : ∀ ds M Q E, TIntX ds M Q E → ds.length = 1 := fun ds M Q E h => by obtain ⟨_, rfl, _⟩ := h; rfl
section
variable {P : Program} {w : World} {K : PySem.W.Frag} {mg : Str → Option Value} {base : Heap}
local macro_rules
  | `(tactic| walk_at "ok") => `(tactic| first
  | ((show BlkOk N_is_integer (defScope st_is_integer) _ _); exact blkOk_by (by decide +kernel)))
  | `(tactic| walk_at "eWECall") => `(tactic| first
  | ((with_reducible refine gC "isinstance" ?_); refine we_isi rfl (by assumption) ?_))
  | `(tactic| walk_at "n") => `(tactic| first
  | ((with_reducible refine gN "thing" ?_); refine we_nm 0 rfl rfl ?_)
  | ((with_reducible show WE _ _ (Expr.Name "int" _) _ _ _); refine we_bltn (v := .ty "int") rfl (by assumption) (by decide +kernel) rfl ?_)
  | ((with_reducible show WE _ _ (Expr.Name "bool" _) _ _ _); refine we_bltn (v := .ty "bool") rfl (by assumption) (by decide +kernel) rfl ?_))
  | `(tactic| walk_at "t") => `(tactic| first
  | ((with_reducible show WS _ _ (Stmt.Assign [Expr.Tuple _ _ _] _ _) _ _ _); refine ws_asg ?_))
theorem fn_is_integerX {f : Addr} {fd : FuncData} (b_isi : mg "isinstance" = none) (b_int : mg "int" = none) (b_bool : mg "bool" = none) (Fn : L2.Fun K "is_integer" "is_integer" st_is_integer f fd) :
    FnOk P w K mg base (L2.CX P w) 1 f fd ["thing"] (spG K TIntX) := by
  refine fn_ok Fn sc_is_integer rfl TIntX_len ?_
  intro cdv A outer s H E N hr ds M Q X' h
  obtain ⟨d, rfl, hd, q⟩ := h
  show WB _ _ _ [some _] _ _
  refine wb_one ?_
  cases d with
  | bl b => walk_at "g"; exact q
  | non => walk_at "g"; exact q
  | lst ds => walk_at "g"; exact q
  | int i => walk_at "g"; exact q
  | str x => walk_at "g"; exact q
  | tup ds => walk_at "g"; exact q
  | cel a => cases hd
  | raw v => cases hd
  | exc a b c => cases hd
end
def TToldX : TSp := fun ds M Q _ => ∃ d, ds = [d] ∧ Flat1 d ∧ Q (.bl (toldD d)) M
theorem TToldX_mono : Mono TToldX := fun ds M Q Q' E E' h _ ⟨i, h1, h2, h3⟩ => ⟨i, h1, h2, h _ _ h3⟩
theorem TToldX_len : ∀ ds M Q E, TToldX ds M Q E → ds.length = 1 := fun ds M Q E h => by obtain ⟨_, rfl, _⟩ := h; rfl
section
variable {P : Program} {w : World} {K : PySem.W.Frag} {mg : Str → Option Value} {base : Heap}
local macro_rules
  | `(tactic| walk_at "ok") => `(tactic| first
  | ((show BlkOk N_is_told (defScope st_is_told) _ _); exact blkOk_by (by decide +kernel)))
  | `(tactic| walk_at "eWECall") => `(tactic| first
  | ((with_reducible show WE _ _ (Expr.Call (Expr.Name _ _) _ _ _) _ _ _); walk_at "c"))
  | `(tactic| walk_at "n") => `(tactic| first
  | ((with_reducible refine gN "thing" ?_); refine we_nm 0 rfl rfl ?_)
  | ((with_reducible show WE _ _ (Expr.Name "MOST" _) _ _ _); refine we_globI rfl (by assumption) ?_))
  | `(tactic| walk_at "t") => `(tactic| first
  | ((with_reducible show WS _ _ (Stmt.Assign [Expr.Tuple _ _ _] _ _) _ _ _); refine ws_asg ?_))
  | `(tactic| walk_at "c") => `(tactic| first
  | ((with_reducible refine gCK "is_integer" ?_); refine we_cl "is_integer" ?_))
theorem fn_is_toldX {f : Addr} {fd : FuncData} (c1 : ∃ t, mg "MOST" = some (.int 1000000000000000000000000000000 t)) (d_int : FD P w K mg base 1 "is_integer" 1 TIntX) (Fn : L2.Fun K "is_told" "is_told" st_is_told f fd) :
    FnOk P w K mg base (L2.CX P w) 2 f fd ["thing"] (spG K TToldX) := by
  refine fn_ok Fn sc_is_told rfl TToldX_len ?_
  intro cdv A outer s H E N hr ds M Q X' h
  obtain ⟨d, rfl, hd, q⟩ := h
  show WB _ _ _ [some _] _ _
  refine wb_one ?_
  walk_at "g"
  refine ⟨d, rfl, hd, ?_⟩
  cases d with
  | int i =>
    refine ⟨_, rfl, iteP rfl ?_⟩
    walk_at "g"
    refine iteD (fun h0 => ?_) (fun h0 => ?_)
    · walk_at "g"
      have e : toldD (.int i) = decide (i ≤ 1000000000000000000000000000000) := by
        show (decide (_ ≤ i) && _) = _
        rw [decide_eq_true h0]; rfl
      rw [e] at q
      exact q
    · have e : toldD (.int i) = false := by
        show (decide (_ ≤ i) && _) = _
        rw [decide_eq_false h0]; rfl
      rw [e] at q
      exact q
  | bl b => exact ⟨_, rfl, iteQ rfl q⟩
  | non => exact ⟨_, rfl, iteQ rfl q⟩
  | lst ds => exact ⟨_, rfl, iteQ rfl q⟩
  | str x => exact ⟨_, rfl, iteQ rfl q⟩
  | tup ds => exact ⟨_, rfl, iteQ rfl q⟩
  | cel a => cases hd
  | raw v => cases hd
  | exc a b c => cases hd
end
def TItemX : TSp := fun ds M Q _ => ∃ d, ds = [d] ∧ ItemK d ∧ Q (.bl (itemOkD d)) M
theorem TItemX_mono : Mono TItemX := fun ds M Q Q' E E' h _ ⟨i, h1, h2, h3⟩ => ⟨i, h1, h2, h _ _ h3⟩
theorem TItemX_len : ∀ ds M Q E, TItemX ds M Q E → ds.length = 1 := fun ds M Q E h => by obtain ⟨_, rfl, _⟩ := h; rfl
section
variable {P : Program} {w : World} {K : PySem.W.Frag} {mg : Str → Option Value} {base : Heap}
local macro_rules
  | `(tactic| walk_at "ok") => `(tactic| first
  | ((show BlkOk N_is_item (defScope st_is_item) _ _); exact blkOk_by (by decide +kernel)))
  | `(tactic| walk_at "eWECall") => `(tactic| first
  | ((with_reducible refine gC "isinstance" ?_); refine we_isi rfl (by assumption) ?_)
  | ((with_reducible show WE _ _ (Expr.Call (Expr.Name _ _) _ _ _) _ _ _); walk_at "c")
  | ((with_reducible refine gC "len" ?_); refine we_len rfl (by assumption) ?_))
  | `(tactic| walk_at "n") => `(tactic| first
  | ((with_reducible refine gN "thing" ?_); refine we_nm 0 rfl rfl ?_)
  | ((with_reducible show WE _ _ (Expr.Name "tuple" _) _ _ _); refine we_bltn (v := .ty "tuple") rfl (by assumption) (by decide +kernel) rfl ?_))
  | `(tactic| walk_at "t") => `(tactic| first
  | ((with_reducible show WS _ _ (Stmt.Assign [Expr.Tuple _ _ _] _ _) _ _ _); refine ws_asg ?_))
  | `(tactic| walk_at "c") => `(tactic| first
  | ((with_reducible refine gCK "is_told" ?_); refine we_cl "is_told" ?_))
theorem fn_is_itemX {f : Addr} {fd : FuncData} (b_isi : mg "isinstance" = none) (b_len : mg "len" = none) (b_tuple : mg "tuple" = none) (d_told : FD P w K mg base 2 "is_told" 1 TToldX) (Fn : L2.Fun K "is_item" "is_item" st_is_item f fd) :
    FnOk P w K mg base (L2.CX P w) 3 f fd ["thing"] (spG K TItemX) := by
  refine fn_ok Fn sc_is_item rfl TItemX_len ?_
  intro cdv A outer s H E N hr ds M Q X' h
  obtain ⟨d, rfl, hd, q⟩ := h
  rcases hd with ⟨xs, rfl, hx⟩ | ⟨xs, rfl⟩
  · show WB _ _ _ [some (.tup xs)] _ _
    refine wb_one ?_
    walk_at "g"
    match xs, hx, q with
    | [], _, q =>
      refine iteQ (decide_eq_false (by decide)) ?_
      exact q
    | [a], _, q =>
      refine iteQ (decide_eq_false (by show ¬ ((1 : Int) = 2); decide)) ?_
      exact q
    | a :: b :: c :: r, _, q =>
      refine iteQ (decide_eq_false (by simp; omega)) ?_
      exact q
    | [a, b], hx, q =>
      refine iteP (decide_eq_true rfl) ?_
      walk_at "g"
      refine ⟨a, rfl, hx a (by simp), _, rfl, ?_⟩
      have e : itemOkD (.tup [a, b]) = (toldD a && toldD b) := rfl
      rw [e] at q
      cases ht : toldD a with
      | false =>
        rw [ht] at q
        exact q
      | true =>
        rw [ht] at q
        refine iteP rfl ?_
        walk_at "g"
        exact ⟨b, rfl, hx b (by simp), q⟩
  · show WB _ _ _ [some (.lst xs)] _ _
    refine wb_one ?_
    walk_at "g"
    exact q
end
inductive Bad0 : D → Prop
  | non : Bad0 .non
  | bl (b : Bool) : Bad0 (.bl b)
  | int (i : Int) : Bad0 (.int i)
  | str (x : Str) : Bad0 (.str x)
  | tup (ds : List D) : Bad0 (.tup ds)
  | long {ds : List D} (h : 24 < ds.length) (h2 : ds.length ≤ 1000) : Bad0 (.lst ds)
  | item {ds : List D} (h : ds.length ≤ 24) (hi : ∀ d ∈ ds, ItemK d) {d : D} (hd : d ∈ ds) (no : itemOkD d = false) : Bad0 (.lst ds)
  | desc {y z : Int × Int} (h : Small y.1 ∧ Small y.2 ∧ Small z.1 ∧ Small z.2) (no : ¬ y.1 < z.1) : Bad0 (.lst [itemD y, itemD z])
/-- a class whose instances are no lists -/
structure ObI (K : PySem.W.Frag) (C : Addr) : Prop where
  c : Cls K C
  ha : PySem.W.findIn K (.ref C) "__class__" = some (some (.builtin "object.__class__"))
  hn : PySem.W.specialIn K (.builtin "object.__class__") "__get__" = some (some (.builtin "getset_descriptor.__get__"))
  ht : PySem.W.takesIn K (.builtin "object.__class__") = some true
  hm : PySem.W.mroIn K C (.type "object") = some true
  kl : PySem.W.kitOne K (.ref C) (.type "list") = some false
def BadC (C : Addr) : Cell → Prop
  | .dct _ => True
  | .ins C' _ _ => C' = C
  | _ => False
def BadBk (C : Addr) (M : Cells) (d : D) : Prop := Bad0 d ∨ ∃ (a : Addr) (k : Nat) (c : Cell), d = .cel a ∧ M[k]? = some (a, c) ∧ BadC C c
section
variable {X : Cx} {P : XP} {F : Hp} {M : Cells} {δ : Slots} {σ : L2.St} {H : Hp} {a b : Expr} {pos p : Pos}
theorem lift_isiO {C : Addr} (o : ObI X.K C) : LiftA X (rIsi X.K) (fun ds M Q => ∃ (c : Addr) (k : Nat) (dx : Addr) (fs : List (Str × D)), ds = [.cel c, .raw (.ty "list")] ∧ M[k]? = some (c, Cell.ins C dx fs) ∧ Q (.bl false) M) := fun k s S r h => by
  obtain ⟨c, i, dx, fs, rfl, hk, q⟩ := h
  obtain ⟨v, w, rfl, r1, r2⟩ := r.two
  cases r1; cases r2
  obtain ⟨vs, e1, _⟩ := S.insAt hk
  exact ⟨_, .ty "list", .ref C, .type "list", false, rfl, .ty "list", .base (.ins e1 o.c o.ha o.hn o.ht o.hm), o.kl, k _ _ (ret S s (.bl _) q)⟩
theorem we_isiO {C : Addr} {Q : D → Cells → Prop} (o : ObI X.K C) (hg : Gl X "isinstance") (hm : X.mg "isinstance" = none) (h : WA X P [a, b] δ M fun ds M1 => ∃ (c : Addr) (k : Nat) (dx : Addr) (fs : List (Str × D)), ds = [.cel c, .raw (.ty "list")] ∧ M1[k]? = some (c, Cell.ins C dx fs) ∧ Q (.bl false) M1)
    (he : starEach [a, b] X.env = (false, eval a X.env) :: starEach [b] X.env := by rfl) (hpl : (backTo pos (starEach [b] X.env)).any (·.1) = false := by rfl) : WE X P (.Call (.Name "isinstance" p) [a, b] [] pos) δ M Q :=
  we_callB call_isi (lift_isiO o) hg hm (by decide +kernel) h (by decide) (by decide) he hpl
end
def TBadBk (C : Addr) : TSp := fun ds M Q _ => ∃ d, ds = [d] ∧ BadBk C M d ∧ Q (.bl false) M
theorem TBadBk_mono (C : Addr) : Mono (TBadBk C) := fun ds M Q Q' E E' h _ ⟨i, h1, h2, h3⟩ => ⟨i, h1, h2, h _ _ h3⟩
theorem TBadBk_len (C : Addr) : ∀ ds M Q E, TBadBk C ds M Q E → ds.length = 1 := fun ds M Q E h => by obtain ⟨_, rfl, _⟩ := h; rfl
section
variable {P : Program} {w : World} {K : PySem.W.Frag} {mg : Str → Option Value} {base : Heap}
local macro_rules
  | `(tactic| walk_at "ok") => `(tactic| first
  | ((show BlkOk N_is_book (defScope st_is_book) _ _); exact blkOk_by (by decide +kernel)))
  | `(tactic| walk_at "tG") => `(tactic| first
  | ((with_reducible refine gG "one" ?_); refine wg_nm 1 ?_)
  | ((with_reducible refine gG "other" ?_); refine wg_nm 2 ?_)
  | ((with_reducible refine gG "item" ?_); refine wg_nm 3 ?_))
  | `(tactic| walk_at "eWECall") => `(tactic| first
  | ((with_reducible refine gC "all" ?_); refine we_all rfl rfl (by assumption) ?_)
  | ((with_reducible refine gC "isinstance" ?_); refine we_isi rfl (by assumption) ?_)
  | ((with_reducible refine gC "len" ?_); refine we_len rfl (by assumption) ?_)
  | ((with_reducible show WE _ _ (Expr.Call (Expr.Name _ _) _ _ _) _ _ _); walk_at "c"))
  | `(tactic| walk_at "n") => `(tactic| first
  | ((with_reducible refine gN "thing" ?_); refine we_nm 0 rfl rfl ?_)
  | ((with_reducible refine gN "one" ?_); refine we_nm 1 rfl rfl ?_)
  | ((with_reducible refine gN "other" ?_); refine we_nm 2 rfl rfl ?_)
  | ((with_reducible refine gN "item" ?_); refine we_nm 3 rfl rfl ?_)
  | ((with_reducible show WE _ _ (Expr.Name "MOST_ITEMS" _) _ _ _); refine we_globI rfl (by assumption) ?_)
  | ((with_reducible show WE _ _ (Expr.Name "list" _) _ _ _); refine we_bltn (v := .ty "list") rfl (by assumption) (by decide +kernel) rfl ?_))
  | `(tactic| walk_at "t") => `(tactic| first
  | ((with_reducible show WG _ _ (Expr.Name _ _) _ _ _ _); walk_at "tG")
  | ((with_reducible show WS _ _ (Stmt.Assign [Expr.Tuple _ _ _] _ _) _ _ _); refine ws_asg ?_))
  | `(tactic| walk_at "c") => `(tactic| first
  | ((with_reducible refine gCK "is_item" ?_); refine we_cl "is_item" ?_))
  | `(tactic| walk_at "tg") => `(tactic| first
  | exact Tg.two (i := 1) (j := 2) rfl rfl (by decide) rfl rfl
  | exact Tg.one (i := 3) rfl rfl)
theorem fn_is_bookX {f : Addr} {fd : FuncData} {C : Addr} (o : ObI K C) (b_isi : mg "isinstance" = none) (b_len : mg "len" = none) (b_list : mg "list" = none) (b_all : mg "all" = none) (b_zip : mg "zip" = none) (c1 : ∃ t, mg "MOST_ITEMS" = some (.int 24 t)) (d_item : FD P w K mg base 3 "is_item" 1 TItemX) (Fn : L2.Fun K "is_book" "is_book" st_is_book f fd) :
    FnOk P w K mg base (L2.CX P w) 4 f fd ["thing"] (spG K (TBadBk C)) := by
  refine fn_ok Fn sc_is_book rfl (TBadBk_len C) ?_
  intro cdv A outer s H E N hr ds M Q X' h
  obtain ⟨d, rfl, hd, q⟩ := h
  show WB _ _ _ [some _, none, none, none] _ _
  refine wb_cons ?_
  rcases hd with hd | ⟨a, k, c, rfl, hk, hc⟩
  · cases hd with
    | non => walk_at "g"; exact q
    | bl b => walk_at "g"; exact q
    | int i => walk_at "g"; exact q
    | str x => walk_at "g"; exact q
    | tup ds => walk_at "g"; exact q
    | long h h2 =>
      walk_at "g"
      refine iteP (decide_eq_true (by omega)) ?_
      walk_at "g"
      exact q
    | @item ds h hi d hm no =>
      walk_at "g"
      refine iteQ (decide_eq_false (by omega)) ?_
      walk_at "g"
      refine we_froz 0 (we_lcM (fun d => .bl (itemOkD d)) N (by walk_at "tg") (by walk_at "ok") (wi_list ?_))
      walk_at "g"
      refine ⟨_, .l, by rw [sizeLine_eq]; omega, fun _ _ => .l, ?_, ?_⟩
      · intro j d' acc p hd
        refine ⟨_, rfl, fun B => ?_⟩
        walk_at "g"
        exact ⟨d', rfl, hi d' (List.mem_of_getElem? hd), rfl, rfl⟩
      intro p
      refine ⟨p, _, rfl, rfl, ?_⟩
      walk_at "g"
      refine ⟨_, ds.map itemOkD, rfl, ?_, ?_⟩
      · rw [List.map_map]; exact .l
      · rw [show (ds.map itemOkD).all id = false from by
          rw [List.all_eq_false]
          exact ⟨_, List.mem_map.mpr ⟨d, hm, rfl⟩, by rw [no]; decide⟩]
        walk_at "g"
        exact q
    | @desc y z h no =>
      walk_at "g"
      refine iteQ (decide_eq_false (by show ¬ ((24 : Int) < 2); decide)) ?_
      walk_at "g"
      refine we_froz 0 (we_lcM (fun d => .bl (itemOkD d)) N (by walk_at "tg") (by walk_at "ok") (wi_list ?_))
      walk_at "g"
      refine ⟨_, .l, by show 2 ≤ sizeLine; decide, fun _ _ => .l, ?_, ?_⟩
      · intro j d' acc p hd
        refine ⟨_, rfl, fun B => ?_⟩
        walk_at "g"
        have hm := List.mem_of_getElem? hd
        simp only [List.mem_cons, List.not_mem_nil, or_false] at hm
        refine ⟨d', rfl, ?_, rfl, rfl⟩
        rcases hm with rfl | rfl
        · exact .inl ⟨_, rfl, fun x hx => by
            simp only [List.mem_cons, List.not_mem_nil, or_false] at hx
            rcases hx with rfl | rfl <;> trivial⟩
        · exact .inl ⟨_, rfl, fun x hx => by
            simp only [List.mem_cons, List.not_mem_nil, or_false] at hx
            rcases hx with rfl | rfl <;> trivial⟩
      intro p
      refine ⟨p, _, rfl, rfl, ?_⟩
      walk_at "g"
      have tl : ∀ i : Int, Small i → toldD (.int i) = true := fun i hi => by
        have hi : i.natAbs ≤ 10 ^ 30 := hi
        show (decide _ && decide _) = true
        rw [decide_eq_true (by omega), decide_eq_true (by omega)]
        rfl
      refine ⟨_, [true, true], rfl, ?_, ?_⟩
      · have e1 : itemOkD (itemD y) = true := by show (toldD _ && toldD _) = true; rw [tl _ h.1, tl _ h.2.1]; rfl
        have e2 : itemOkD (itemD z) = true := by show (toldD _ && toldD _) = true; rw [tl _ h.2.2.1, tl _ h.2.2.2]; rfl
        show LV _ (.lst [D.bl (itemOkD (itemD y)), D.bl (itemOkD (itemD z))]) _
        rw [e1, e2]
        exact .l
      walk_at "g"
      refine we_froz 0 (we_lcM (fun _ => .bl false) N (by walk_at "tg") (by walk_at "ok") (wi_zip rfl (by assumption) ?_))
      walk_at "g"
      refine ⟨_, _, [itemD y, itemD z], [itemD z], rfl, .l, .inl (by rw [cutD_1]; rfl), by rw [zipD_len]; show 1 ≤ sizeLine; decide, fun _ _ => ⟨.l, .inl (by rw [cutD_1]; rfl)⟩, ?_, ?_⟩
      · intro j d' acc p' hd
        have hj : j = 0 := by
          have := (List.getElem?_eq_some_iff.mp hd).1
          rw [zipD_len] at this
          have : j < 1 := this
          omega
        subst hj
        obtain rfl : d' = .tup [.tup [.int y.1, .int y.2], .tup [.int z.1, .int z.2]] := (Option.some.inj hd).symm
        refine ⟨_, ⟨_, _, rfl, rfl⟩, fun B => ?_⟩
        walk_at "g"
        all_goals first | rfl | rw [decide_eq_false no]
      intro p'
      refine ⟨p', _, rfl, rfl, ?_⟩
      walk_at "g"
      exact ⟨_, [false], rfl, .l, q⟩
  · cases c with
    | dct kvs =>
      refine ws_if (ww_wt (ww_or (wt_not (wt_val (we_isiD rfl (by assumption) ?_)))))
      walk_at "g"
      refine ⟨_, _, _, rfl, hk, ?_⟩
      walk_at "g"
      exact q
    | ins C' dx fs =>
      obtain rfl : C' = C := hc
      refine ws_if (ww_wt (ww_or (wt_not (wt_val (we_isiO o rfl (by assumption) ?_)))))
      walk_at "g"
      refine ⟨_, _, _, _, rfl, hk, ?_⟩
      walk_at "g"
      exact q
    | lst ds => cases hc
    | set a b c => cases hc
end
/-! OdB -/
def rowTo (xs : List (Int × Int)) (i k : Nat) : List (Nat × Nat) := (((List.range k).map fun k => i + 1 + k).filter (unfit xs i)).map fun j => (i, j)
theorem rowTo_all (xs : List (Int × Int)) (i : Nat) : rowTo xs i (xs.length - (i + 1)) = confRow xs i := rfl
theorem rowTo_step (xs : List (Int × Int)) (i k : Nat) : rowTo xs i (k + 1) = rowTo xs i k ++ (if unfit xs i (i + 1 + k) = true then [(i, i + 1 + k)] else []) := by
  unfold rowTo
  rw [List.range_succ, List.map_append, List.filter_append, List.map_append]
  congr 1
  show (List.filter (unfit xs i) [i + 1 + k]).map (fun j => (i, j)) = _
  rw [List.filter_cons]
  split <;> rfl
theorem unfit_iff {xs : List (Int × Int)} {i j : Nat} : unfit xs i j = true ↔ ((itAt xs j).2 - (itAt xs i).2) % ((itAt xs j).1 - (itAt xs i).1) ≠ 0 := by
  unfold unfit
  rw [Bool.not_eq_true', decide_eq_false_iff_not]
  constructor
  · intro h e
    exact h (Fit.symm' (Int.dvd_of_emod_eq_zero e))
  · intro h e
    exact h (Int.emod_eq_zero_of_dvd (Fit.symm' e))

theorem row_first {xs : List (Int × Int)} {i k : Nat} (h : rowTo xs i k = []) (u : unfit xs i (i + 1 + k) = true) : ∀ m, ∃ r, rowTo xs i (k + 1 + m) = (i, i + 1 + k) :: r
  | 0 => ⟨[], by rw [Nat.add_zero, rowTo_step, h, if_pos u]; rfl⟩
  | m + 1 => by
    obtain ⟨r, e⟩ := row_first h u m
    exact ⟨r ++ _, by rw [← Nat.add_assoc, rowTo_step, e]; rfl⟩
theorem conf_first {xs : List (Int × Int)} {i k : Nat} (h0 : confTo xs i = []) (h : rowTo xs i k = []) (u : unfit xs i (i + 1 + k) = true) (hl : i + 1 + k < xs.length) : ∀ m, ∃ r, confTo xs (i + 1 + m) = (i, i + 1 + k) :: r
  | 0 => by
    obtain ⟨r, e⟩ := row_first h u (xs.length - (i + 1) - (k + 1))
    refine ⟨r, ?_⟩
    show confTo xs i ++ confRow xs i = _
    rw [h0, ← rowTo_all, List.nil_append, ← e]
    congr 1
    omega
  | m + 1 => by
    obtain ⟨r, e⟩ := conf_first h0 h u hl m
    exact ⟨r ++ confRow xs (i + 1 + m), by show confTo xs (i + 1 + m) ++ _ = _; rw [e]; rfl⟩
theorem confs_first {xs : List (Int × Int)} {i k : Nat} (h0 : confTo xs i = []) (h : rowTo xs i k = []) (u : unfit xs i (i + 1 + k) = true) (hl : i + 1 + k < xs.length) : ∃ r, confs xs = (i, i + 1 + k) :: r := by
  obtain ⟨r, e⟩ := conf_first h0 h u hl (xs.length - (i + 1))
  refine ⟨r, ?_⟩
  unfold confs
  rw [← e]
  congr 1
  omega

def unfE (C : Addr) (i j : Nat) : Ex := ⟨C, fsD [("second", (j : Int)), ("first", (i : Int))]⟩
/-- what comes of a book: no book, two values that do not fit, or right -/
def BkOut (C CB CU : Addr) (M : Cells) (d : D) (ok : List (Int × Int) → Prop) (E : Ex → Cells → Prop) : Prop :=
  (BadBk C M d ∧ E ⟨CB, []⟩ M) ∨ (∃ xs i j r, LV M d (bookD xs) ∧ BookOk xs ∧ confs xs = (i, j) :: r ∧ E (unfE CU i j) M) ∨ ∃ xs, LV M d (bookD xs) ∧ BookOk xs ∧ confs xs = [] ∧ ok xs
theorem BkOut.imp {C CB CU : Addr} {M : Cells} {d : D} {ok ok' : List (Int × Int) → Prop} {E E' : Ex → Cells → Prop} (h : ∀ xs, ok xs → ok' xs) (g : ∀ x M', E x M' → E' x M') : BkOut C CB CU M d ok E → BkOut C CB CU M d ok' E'
  | .inl ⟨a, b⟩ => .inl ⟨a, g _ _ b⟩
  | .inr (.inl ⟨xs, i, j, r, a, b, c, e⟩) => .inr (.inl ⟨xs, i, j, r, a, b, c, g _ _ e⟩)
  | .inr (.inr ⟨xs, a, b, c, e⟩) => .inr (.inr ⟨xs, a, b, c, h _ e⟩)
def TNeedBad (C CB : Addr) : TSp := fun ds M Q E => ∃ d, ds = [d] ∧ BadBk C M d ∧ E ⟨CB, []⟩ M
theorem TNeedBad_mono (C CB : Addr) : Mono (TNeedBad C CB) := fun ds M Q Q' E E' h g ⟨i, h1, h2, h3⟩ => ⟨i, h1, h2, g _ _ h3⟩
theorem TNeedBad_len (C CB : Addr) : ∀ ds M Q E, TNeedBad C CB ds M Q E → ds.length = 1 := fun ds M Q E h => by obtain ⟨_, rfl, _⟩ := h; rfl
section
variable {P : Program} {w : World} {K : PySem.W.Frag} {mg : Str → Option Value} {base : Heap}
local macro_rules
  | `(tactic| walk_at "ok") => `(tactic| first
  | ((show BlkOk N_need_book (defScope st_need_book) _ _); exact blkOk_by (by decide +kernel)))
  | `(tactic| walk_at "eWECall") => `(tactic| first
  | ((with_reducible show WE _ _ (Expr.Call (Expr.Name _ _) _ _ _) _ _ _); walk_at "c"))
  | `(tactic| walk_at "n") => `(tactic| first
  | ((with_reducible show WE _ _ (Expr.Name "InvalidBook" _) _ _ _); refine we_glob (v := .ref _) rfl (by assumption) rfl (fun _ _ => .raw _) ?_))
local macro_rules
  | `(tactic| walk_at "n") => `(tactic| first
  | ((with_reducible refine gN "book" ?_); refine we_nm 0 rfl rfl ?_))
  | `(tactic| walk_at "t") => `(tactic| first
  | ((with_reducible show WS _ _ (Stmt.Assign [Expr.Tuple _ _ _] _ _) _ _ _); refine ws_asg ?_))
  | `(tactic| walk_at "c") => `(tactic| first
  | ((with_reducible refine gCK "is_book" ?_); refine we_cl "is_book" ?_))
theorem fn_need_bookX {f : Addr} {fd : FuncData} {C CB : Addr} (tl : ExcN K mg "InvalidBook" CB) (d_book : FD P w K mg base 4 "is_book" 1 (TBadBk C)) (Fn : L2.Fun K "need_book" "need_book" st_need_book f fd) :
    FnOk P w K mg base (L2.CX P w) 5 f fd ["book"] (spG K (TNeedBad C CB)) := by
  refine fn_ok Fn sc_need_book rfl (TNeedBad_len C CB) ?_
  intro cdv A outer s H E N hr ds M Q X' h
  obtain ⟨d, rfl, hd, q⟩ := h
  show WB _ _ _ [some _] _ _
  refine wb_one ?_
  walk_at "g"
  refine ⟨d, rfl, hd, ?_⟩
  walk_at "g"
  refine ws_raise N (wm_own PySem.F.excBase_ValueError tl.q tl.g tl.k (raises_own tl.b tl.t) rfl ?_)
  exact q
end
section
variable {P : Program} {w : World} {K : PySem.W.Frag} {mg : Str → Option Value} {base : Heap}
local macro_rules
  | `(tactic| walk_at "ok") => `(tactic| first
  | ((show BlkOk N_need_possible (defScope st_need_possible) _ _); exact blkOk_by (by decide +kernel)))
  | `(tactic| walk_at "eWECall") => `(tactic| first
  | ((with_reducible show WE _ _ (Expr.Call (Expr.Name _ _) _ _ _) _ _ _); walk_at "c"))
  | `(tactic| walk_at "n") => `(tactic| first
  | ((with_reducible refine gN "book" ?_); refine we_nm 0 rfl rfl ?_))
  | `(tactic| walk_at "t") => `(tactic| first
  | ((with_reducible show WS _ _ (Stmt.Assign [Expr.Tuple _ _ _] _ _) _ _ _); refine ws_asg ?_))
  | `(tactic| walk_at "c") => `(tactic| first
  | ((with_reducible refine gCK "need_book" ?_); refine we_cl "need_book" ?_)
  | ((with_reducible refine gCK "need_fitting" ?_); refine we_cl "need_fitting" ?_))
theorem fn_need_possibleB {f : Addr} {fd : FuncData} {C CB : Addr} (d_book : FD P w K mg base 5 "need_book" 1 (TNeedBad C CB)) (Fn : L2.Fun K "need_possible" "need_possible" st_need_possible f fd) :
    FnOk P w K mg base (L2.CX P w) 6 f fd ["book"] (spG K (TNeedBad C CB)) := by
  refine fn_ok Fn sc_need_possible rfl (TNeedBad_len C CB) ?_
  intro cdv A outer s H E N hr ds M Q X' h
  obtain ⟨d, rfl, hd, q⟩ := h
  show WB _ _ _ [some _] _ _
  refine wb_cons ?_
  walk_at "g"
  exact ⟨d, rfl, hd, q⟩
end
def TPossE (C CB CU : Addr) : TSp := fun ds M Q E => ∃ d, ds = [d] ∧ BkOut C CB CU M d (fun _ => Q .non M) E
theorem TPossE_mono (C CB CU : Addr) : Mono (TPossE C CB CU) := fun ds M Q Q' E E' h g ⟨d, h1, h2⟩ => ⟨d, h1, h2.imp (fun _ => h _ _) g⟩
theorem possE_or (C CB CU : Addr) : ∀ ds M Q E, TPossE C CB CU ds M Q E → TNeedBad C CB ds M Q E ∨ TPossX CU ds M Q E := fun ds M Q E ⟨d, h1, h2⟩ => by
  rcases h2 with ⟨a, b⟩ | ⟨xs, i, j, r, a, b, c, e⟩ | ⟨xs, a, b, c, e⟩
  · exact .inl ⟨d, h1, a, b⟩
  · refine .inr ⟨d, xs, h1, a, b, (fun z => by rw [z] at c; cases c), fun i' j' r' z => ?_⟩
    rw [z] at c
    cases c
    exact e
  · exact .inr ⟨d, xs, h1, a, b, fun _ => e, fun i j r z => by rw [z] at c; cases c⟩
/-- all other values are far from this one -/
def FarB (xs : List (Int × Int)) (v : Int) : Prop := (∃ x ∈ xs, x.2 ≠ v) ∧ ∀ x ∈ xs, x.2 ≠ v → 1000000000 < absI (v - x.2)
def TByFar (CT : Addr) : TSp := fun ds M Q E => ∃ d xs v, ds = [d, .int v] ∧ LV M d (bookD xs) ∧ BookOk xs ∧ FarB xs v ∧ E ⟨CT, []⟩ M
theorem TByFar_mono (CT : Addr) : Mono (TByFar CT) := fun ds M Q Q' E E' h g ⟨a, b, c, h1, h2, h3, h4, h5⟩ => ⟨a, b, c, h1, h2, h3, h4, g _ _ h5⟩
theorem TByFar_len (CT : Addr) : ∀ ds M Q E, TByFar CT ds M Q E → ds.length = 2 := fun ds M Q E h => by obtain ⟨_, _, _, rfl, _⟩ := h; rfl
section
variable {P : Program} {w : World} {K : PySem.W.Frag} {mg : Str → Option Value} {base : Heap}
local macro_rules
  | `(tactic| walk_at "ok") => `(tactic| first
  | ((show BlkOk N_places_by (defScope st_places_by) _ _); exact blkOk_by (by decide +kernel)))
  | `(tactic| walk_at "tS") => `(tactic| first
  | ((with_reducible refine gS "rows" ?_); refine ws_st 2 ?_)
  | ((with_reducible refine gS "found" ?_); refine ws_st 5 ?_))
  | `(tactic| walk_at "tG") => `(tactic| first
  | ((with_reducible refine gG "difference" ?_); refine wg_nm 3 ?_)
  | ((with_reducible refine gG "near" ?_); refine wg_nm 4 ?_)
  | ((with_reducible refine gG "far" ?_); refine wg_nm 6 ?_)
  | ((with_reducible refine gG "place" ?_); refine wg_nm 7 ?_)
  | ((with_reducible refine gG "own" ?_); refine wg_nm 8 ?_)
  | ((with_reducible refine gG "told" ?_); refine wg_nm 9 ?_))
  | `(tactic| walk_at "eWECall") => `(tactic| first
  | ((with_reducible show WE _ _ (Expr.Call (Expr.Name _ _) _ _ _) _ _ _); walk_at "c")
  | ((with_reducible refine gC "all" ?_); refine we_all rfl rfl (by assumption) ?_)
  | ((with_reducible refine gC "abs" ?_); refine we_abs rfl (by assumption) ?_))
  | `(tactic| walk_at "n") => `(tactic| first
  | ((with_reducible show WE _ _ (Expr.Name "TooLarge" _) _ _ _); refine we_glob (v := .ref _) rfl (by assumption) rfl (fun _ _ => .raw _) ?_))
local macro_rules
  | `(tactic| walk_at "n") => `(tactic| first
  | ((with_reducible refine gN "value" ?_); refine we_nm 1 rfl rfl ?_)
  | ((with_reducible refine gN "place" ?_); refine we_nm 7 rfl rfl ?_)
  | ((with_reducible refine gN "own" ?_); refine we_nm 8 rfl rfl ?_)
  | ((with_reducible refine gN "items" ?_); refine we_nm 0 rfl rfl ?_)
  | ((with_reducible refine gN "rows" ?_); refine we_nm 2 rfl rfl ?_)
  | ((with_reducible refine gN "difference" ?_); refine we_nm 3 rfl rfl ?_)
  | ((with_reducible refine gN "near" ?_); refine we_nm 4 rfl rfl ?_)
  | ((with_reducible refine gN "found" ?_); refine we_nm 5 rfl rfl ?_)
  | ((with_reducible refine gN "far" ?_); refine we_nm 6 rfl rfl ?_)
  | ((with_reducible refine gN "told" ?_); refine we_nm 9 rfl rfl ?_)
  | ((with_reducible show WE _ _ (Expr.Name "MOST_DIFFERENCE" _) _ _ _); refine we_globI rfl (by assumption) ?_))
  | `(tactic| walk_at "t") => `(tactic| first
  | ((with_reducible show WS _ _ (Stmt.Assign [Expr.Name _ _] _ _) _ _ _); walk_at "tS")
  | ((with_reducible show WG _ _ (Expr.Name _ _) _ _ _ _); walk_at "tG")
  | ((with_reducible show WS _ _ (Stmt.Assign [Expr.Tuple _ _ _] _ _) _ _ _); refine ws_asg ?_))
  | `(tactic| walk_at "c") => `(tactic| first
  | ((with_reducible refine gCK "divisors_in" ?_); refine we_cl "divisors_in" ?_)
  | ((with_reducible refine gCK "divides" ?_); refine we_cl "divides" ?_))
  | `(tactic| walk_at "tg") => `(tactic| first
  | exact Tg.two (i := 7) (j := 8) rfl rfl (by decide) rfl rfl
  | exact Tg.two (i := 9) (j := 8) rfl rfl (by decide) rfl rfl)
theorem fn_places_byX {f : Addr} {fd : FuncData} {CT : Addr} (tl : ExcN K mg "TooLarge" CT) (b_abs : mg "abs" = none) (b_sorted : mg "sorted" = none) (c1 : ∃ t, mg "MOST_DIFFERENCE" = some (.int 1000000000 t)) (Fn : L2.Fun K "places_by" "places_by" st_places_by f fd) :
    FnOk P w K mg base (L2.CX P w) 2 f fd ["items", "value"] (spG K (TByFar CT)) := by
  refine fn_ok Fn sc_places_by rfl (TByFar_len CT) ?_
  intro cdv A outer s H E N hr ds M Q X' h
  obtain ⟨d, xs, v, rfl, hl, hb, hn, q⟩ := h
  have hbl : (bookD xs).length = xs.length := by unfold bookD; rw [List.length_map]
  have hlen := hb.1
  show WB _ _ _ [some _, some _, none, none, none, none, none, none, none, none] _ _
  refine wb_cons ?_
  walk_at "t"
  refine we_sortedP rfl (by assumption) ?_
  refine we_froz 0 (we_lcF (kOwn v) (fOwn v) N (by walk_at "tg") (by walk_at "ok") (wi_list ?_))
  walk_at "g"
  refine ⟨_, hl, ?_, fun _ _ => hl.cons, ?_, ?_⟩
  · rw [hbl, sizeLine_eq]; omega
  · intro j d' acc p hd
    obtain ⟨y, hy, rfl⟩ := List.mem_map.mp (List.mem_of_getElem? hd)
    refine ⟨_, ⟨_, _, rfl, rfl⟩, fun B => ?_⟩
    walk_at "g"
    refine ⟨rfl, rfl, fun _ B => ?_⟩
    walk_at "g"
    exact ⟨rfl, rfl⟩
  · intro p
    refine ⟨p, _, rfl, rfl, ?_⟩
    refine ⟨rowsOf xs v, by rw [rows_D]; exact .l, fun qs hp hs => ?_⟩
    refine wb_cons ?_
    cases qs with
    | nil =>
      obtain ⟨x, hx, e⟩ := hn.1
      exact absurd (rows_nil.mp hp.symm.eq_nil x hx) e
    | cons r qs =>
      obtain ⟨x, hx, hne, rfl⟩ := rows_mem (hp.mem_iff.mp List.mem_cons_self)
      have hfar := hn.2 x hx hne
      walk_at "g"
      refine req_d (p := .list (pys ((absI (v - x.2), x.1) :: qs |>.map pD))) (q := .list []) (.fz (okDs_book _)) (.fz rfl) (shaped_book _) rfl ?_
      refine ⟨_, rfl, iteQ rfl ?_⟩
      walk_at "g"
      refine ⟨.tup [.int (absI (v - x.2)), .int x.1], atI_nat (j := 0) rfl, ?_⟩
      walk_at "g"
      refine iteP (decide_eq_true (by omega)) ?_
      refine wb_one (ws_raise N (wm_own PySem.F.excBase_ValueError tl.q tl.g tl.k (raises_own tl.b tl.t) rfl ?_))
      exact q
end
/-- errors of the three functions that tell where a value can stand -/
def TStE (C CB CU CT : Addr) (more : List D) : TSp := fun ds M Q E => ∃ d v, ds = d :: .int v :: more ∧ BkOut C CB CU M d (fun xs => FarB xs v ∧ E ⟨CT, []⟩ M) E
theorem TStE_len (C CB CU CT : Addr) (more : List D) : ∀ ds M Q E, TStE C CB CU CT more ds M Q E → ds.length = 2 + more.length := fun ds M Q E h => by obtain ⟨_, _, rfl, _⟩ := h; simp; omega
section
variable {P : Program} {w : World} {K : PySem.W.Frag} {mg : Str → Option Value} {base : Heap}
local macro_rules
  | `(tactic| walk_at "ok") => `(tactic| first
  | ((show BlkOk N_places_for (defScope st_places_for) _ _); exact blkOk_by (by decide +kernel)))
  | `(tactic| walk_at "eWECall") => `(tactic| first
  | ((with_reducible show WE _ _ (Expr.Call (Expr.Name _ _) _ _ _) _ _ _); walk_at "c"))
  | `(tactic| walk_at "n") => `(tactic| first
  | ((with_reducible refine gN "book" ?_); refine we_nm 0 rfl rfl ?_)
  | ((with_reducible refine gN "value" ?_); refine we_nm 1 rfl rfl ?_))
  | `(tactic| walk_at "t") => `(tactic| first
  | ((with_reducible show WS _ _ (Stmt.Assign [Expr.Tuple _ _ _] _ _) _ _ _); refine ws_asg ?_))
  | `(tactic| walk_at "c") => `(tactic| first
  | ((with_reducible refine gCK "need_possible" ?_); refine we_cl "need_possible" ?_)
  | ((with_reducible refine gCK "places_by" ?_); refine we_cl "places_by" ?_))
theorem fn_places_forE {f : Addr} {fd : FuncData} {C CB CU CT : Addr} (d_poss : FD P w K mg base 6 "need_possible" 1 (TPossE C CB CU)) (d_by : FD P w K mg base 2 "places_by" 2 (TByFar CT)) (Fn : L2.Fun K "places_for" "places_for" st_places_for f fd) :
    FnOk P w K mg base (L2.CX P w) 7 f fd ["book", "value"] (spG K (TStE C CB CU CT [])) := by
  refine fn_ok Fn sc_places_for rfl (TStE_len C CB CU CT []) ?_
  intro cdv A outer s H E N hr ds M Q X' h
  obtain ⟨d, v, rfl, h⟩ := h
  show WB _ _ _ [some _, some _] _ _
  refine wb_cons ?_
  walk_at "g"
  rcases h with h | h | ⟨xs, hl, hb, hc, hf, q⟩
  · exact ⟨d, rfl, .inl h⟩
  · exact ⟨d, rfl, .inr (.inl h)⟩
  refine ⟨d, rfl, .inr (.inr ⟨xs, hl, hb, hc, ?_⟩)⟩
  walk_at "g"
  exact ⟨d, xs, v, rfl, hl, hb, hf, q⟩
end
section
variable {P : Program} {w : World} {K : PySem.W.Frag} {mg : Str → Option Value} {base : Heap}
local macro_rules
  | `(tactic| walk_at "ok") => `(tactic| first
  | ((show BlkOk N_has_place (defScope st_has_place) _ _); exact blkOk_by (by decide +kernel)))
  | `(tactic| walk_at "eWECall") => `(tactic| first
  | ((with_reducible show WE _ _ (Expr.Call (Expr.Name _ _) _ _ _) _ _ _); walk_at "c"))
  | `(tactic| walk_at "n") => `(tactic| first
  | ((with_reducible refine gN "book" ?_); refine we_nm 0 rfl rfl ?_)
  | ((with_reducible refine gN "value" ?_); refine we_nm 1 rfl rfl ?_))
  | `(tactic| walk_at "t") => `(tactic| first
  | ((with_reducible show WS _ _ (Stmt.Assign [Expr.Tuple _ _ _] _ _) _ _ _); refine ws_asg ?_))
  | `(tactic| walk_at "c") => `(tactic| first
  | ((with_reducible refine gCK "need_possible" ?_); refine we_cl "need_possible" ?_)
  | ((with_reducible refine gCK "places_by" ?_); refine we_cl "places_by" ?_))
theorem fn_has_placeE {f : Addr} {fd : FuncData} {C CB CU CT : Addr} (d_poss : FD P w K mg base 6 "need_possible" 1 (TPossE C CB CU)) (d_by : FD P w K mg base 2 "places_by" 2 (TByFar CT)) (Fn : L2.Fun K "has_place" "has_place" st_has_place f fd) :
    FnOk P w K mg base (L2.CX P w) 7 f fd ["book", "value"] (spG K (TStE C CB CU CT [])) := by
  refine fn_ok Fn sc_has_place rfl (TStE_len C CB CU CT []) ?_
  intro cdv A outer s H E N hr ds M Q X' h
  obtain ⟨d, v, rfl, h⟩ := h
  show WB _ _ _ [some _, some _] _ _
  refine wb_cons ?_
  walk_at "g"
  rcases h with h | h | ⟨xs, hl, hb, hc, hf, q⟩
  · exact ⟨d, rfl, .inl h⟩
  · exact ⟨d, rfl, .inr (.inl h)⟩
  refine ⟨d, rfl, .inr (.inr ⟨xs, hl, hb, hc, ?_⟩)⟩
  walk_at "g"
  exact ⟨d, xs, v, rfl, hl, hb, hf, q⟩
end
section
variable {P : Program} {w : World} {K : PySem.W.Frag} {mg : Str → Option Value} {base : Heap}
local macro_rules
  | `(tactic| walk_at "ok") => `(tactic| first
  | ((show BlkOk N_nearest_place (defScope st_nearest_place) _ _); exact blkOk_by (by decide +kernel)))
  | `(tactic| walk_at "tS") => `(tactic| first
  | ((with_reducible refine gS "places" ?_); refine ws_st 3 ?_)
  | ((with_reducible refine gS "rows" ?_); refine ws_st 4 ?_))
  | `(tactic| walk_at "tG") => `(tactic| first
  | ((with_reducible refine gG "one" ?_); refine wg_nm 5 ?_))
  | `(tactic| walk_at "eWECall") => `(tactic| first
  | ((with_reducible show WE _ _ (Expr.Call (Expr.Name _ _) _ _ _) _ _ _); walk_at "c")
  | ((with_reducible refine gC "abs" ?_); refine we_abs rfl (by assumption) ?_))
  | `(tactic| walk_at "n") => `(tactic| first
  | ((with_reducible refine gN "book" ?_); refine we_nm 0 rfl rfl ?_)
  | ((with_reducible refine gN "place" ?_); refine we_nm 2 rfl rfl ?_)
  | ((with_reducible refine gN "places" ?_); refine we_nm 3 rfl rfl ?_)
  | ((with_reducible refine gN "rows" ?_); refine we_nm 4 rfl rfl ?_)
  | ((with_reducible refine gN "one" ?_); refine we_nm 5 rfl rfl ?_)
  | ((with_reducible refine gN "value" ?_); refine we_nm 1 rfl rfl ?_))
  | `(tactic| walk_at "t") => `(tactic| first
  | ((with_reducible show WS _ _ (Stmt.Assign [Expr.Name _ _] _ _) _ _ _); walk_at "tS")
  | ((with_reducible show WG _ _ (Expr.Name _ _) _ _ _ _); walk_at "tG")
  | ((with_reducible show WS _ _ (Stmt.Assign [Expr.Tuple _ _ _] _ _) _ _ _); refine ws_asg ?_))
  | `(tactic| walk_at "c") => `(tactic| first
  | ((with_reducible refine gCK "need_possible" ?_); refine we_cl "need_possible" ?_)
  | ((with_reducible refine gCK "places_by" ?_); refine we_cl "places_by" ?_))
  | `(tactic| walk_at "tg") => `(tactic| first
  | exact Tg.one (i := 5) rfl rfl)
theorem fn_nearest_placeE {f : Addr} {fd : FuncData} {C CB CU CT : Addr} (d_poss : FD P w K mg base 6 "need_possible" 1 (TPossE C CB CU)) (d_by : FD P w K mg base 2 "places_by" 2 (TByFar CT)) (Fn : L2.Fun K "nearest_place" "nearest_place" st_nearest_place f fd) :
    FnOk P w K mg base (L2.CX P w) 7 f fd ["book", "value", "place"] (spG K (TStE C CB CU CT [.int 7])) := by
  refine fn_ok Fn sc_nearest_place rfl (TStE_len C CB CU CT [.int 7]) ?_
  intro cdv A outer s H E N hr ds M Q X' h
  obtain ⟨d, v, rfl, h⟩ := h
  show WB _ _ _ (some _ :: some _ :: some _ :: _) _ _
  refine wb_cons ?_
  walk_at "g"
  rcases h with h | h | ⟨xs, hl, hb, hc, hf, q⟩
  · exact ⟨d, rfl, .inl h⟩
  · exact ⟨d, rfl, .inr (.inl h)⟩
  refine ⟨d, rfl, .inr (.inr ⟨xs, hl, hb, hc, ?_⟩)⟩
  walk_at "g"
  exact ⟨d, xs, v, rfl, hl, hb, hf, q⟩
end
/-- the same, and no error where a told value is near: what comes then is not asked -/
def TStX (C CB CU CT : Addr) (more : List D) : TSp := fun ds M Q E => ∃ d v, ds = d :: .int v :: more ∧ BkOut C CB CU M d (fun xs => (FarB xs v ∧ E ⟨CT, []⟩ M) ∨ (NearB xs v ∧ ∀ z rest, Q z (rest ++ M))) E
theorem TStX_mono (C CB CU CT : Addr) (more : List D) : Mono (TStX C CB CU CT more) := fun ds M Q Q' E E' h g ⟨d, v, h1, h2⟩ => ⟨d, v, h1, h2.imp (fun _ z => z.imp (fun ⟨a, b⟩ => ⟨a, g _ _ b⟩) fun ⟨a, b⟩ => ⟨a, fun z r => h _ _ (b z r)⟩) g⟩
theorem stX_split {C CB CU CT : Addr} {more ds : List D} {M : Cells} {Q : D → Cells → Prop} {E : Ex → Cells → Prop} (h : TStX C CB CU CT more ds M Q E) : TStE C CB CU CT more ds M Q E ∨ ∃ d v xs, ds = d :: .int v :: more ∧ LV M d (bookD xs) ∧ PossOk xs ∧ NearB xs v ∧ ∀ z rest, Q z (rest ++ M) := by
  obtain ⟨d, v, h1, h2⟩ := h
  rcases h2 with h2 | h2 | ⟨xs, a, b, c, e | e⟩
  · exact .inl ⟨d, v, h1, .inl h2⟩
  · exact .inl ⟨d, v, h1, .inr (.inl h2)⟩
  · exact .inl ⟨d, v, h1, .inr (.inr ⟨xs, a, b, c, e⟩)⟩
  · exact .inr ⟨d, v, xs, h1, a, ⟨b, confs_nil.mp c⟩, e⟩
theorem for_or (C CB CU CT : Addr) : ∀ ds M Q E, TStX C CB CU CT [] ds M Q E → TStE C CB CU CT [] ds M Q E ∨ TPlacesFor ds M Q E := fun ds M Q E h => (stX_split h).imp id fun ⟨d, v, xs, h1, h2, h3, h4, q⟩ => ⟨d, xs, v, h1, h2, h3, h4, fun _ r => q _ r, fun _ p ns r _ _ _ => q (.cel p) ((p, .lst (ns.map D.int)) :: r)⟩
theorem has_or (C CB CU CT : Addr) : ∀ ds M Q E, TStX C CB CU CT [] ds M Q E → TStE C CB CU CT [] ds M Q E ∨ THas ds M Q E := fun ds M Q E h => (stX_split h).imp id fun ⟨d, v, xs, h1, h2, h3, h4, q⟩ => ⟨d, xs, v, h1, h2, h3, h4, fun b r _ => q _ r⟩
theorem near_or (C CB CU CT : Addr) : ∀ ds M Q E, TStX C CB CU CT [.int 7] ds M Q E → TStE C CB CU CT [.int 7] ds M Q E ∨ TNear ds M Q E := fun ds M Q E h => (stX_split h).imp id fun ⟨d, v, xs, h1, h2, h3, h4, q⟩ => ⟨d, xs, v, 7, h1, h2, h3, h4, fun _ r => q _ r, fun _ r z _ => q z r⟩
/-! OdC -/
set_option exponentiation.threshold 100000
def TAsk3 (C : Addr) : TSp := fun ds M Q _ => ∃ (way : Nat) (d : D) (v : Int), ds = [.int way, d, .int v] ∧ way < 3 ∧ ((BadBk C M d ∧ Q (.int 0) M) ∨ (∃ xs i j r, LV M d (bookD xs) ∧ BookOk xs ∧ confs xs = (i, j) :: r ∧ Q (.tup [.int (i : Nat), .int (j : Nat)]) M) ∨
  ∃ xs, LV M d (bookD xs) ∧ BookOk xs ∧ confs xs = [] ∧ ((FarB xs v ∧ Q (.int 1) M) ∨ (NearB xs v ∧ ∀ rest, Q .non (rest ++ M))))
theorem TAsk3_mono (C : Addr) : Mono (TAsk3 C) := fun ds M Q Q' E E' h _ ⟨way, d, v, h1, h2, h3⟩ => ⟨way, d, v, h1, h2, by
  rcases h3 with ⟨a, b⟩ | ⟨xs, i, j, r, a, b, c, e⟩ | ⟨xs, a, b, c, ⟨e, f⟩ | ⟨e, f⟩⟩
  · exact .inl ⟨a, h _ _ b⟩
  · exact .inr (.inl ⟨xs, i, j, r, a, b, c, h _ _ e⟩)
  · exact .inr (.inr ⟨xs, a, b, c, .inl ⟨e, h _ _ f⟩⟩)
  · exact .inr (.inr ⟨xs, a, b, c, .inr ⟨e, fun r => h _ _ (f r)⟩⟩)⟩
theorem TAsk3_len (C : Addr) : ∀ ds M Q E, TAsk3 C ds M Q E → ds.length = 3 := fun ds M Q E h => by obtain ⟨_, _, _, rfl, _⟩ := h; rfl
/-- classes that are no one another's, and their base -/
structure KitTab (K : PySem.W.Frag) (Cs : List Addr) (B : Addr) : Prop where
  kit : ∀ (i j : Nat) (A D : Addr), Cs[i]? = some A → Cs[j]? = some D → PySem.W.kitOne K (.ref A) (.ref D) = some (decide (i = j))
  ex : ∀ A ∈ Cs, ExcC K A
  base : ∀ A ∈ Cs, PySem.W.exmOne K (.ref A) (.ref B) = some true
def EAsk3 (CB CU CT : Addr) (Q : D → Cells → Prop) : Ex → Cells → Prop := fun y M' => (∃ i j : Nat, y = unfE CU i j ∧ Q (.tup [.int i, .int j]) M') ∨ ∃ n : Nat, [CB, CT][n]? = some y.cls ∧ y.fs = [] ∧ Q (.int n) M'
theorem ask_stx {C CB CU CT : Addr} {more : List D} {d : D} {v : Int} {M : Cells} {Q : D → Cells → Prop} (h : (BadBk C M d ∧ Q (.int 0) M) ∨ (∃ xs i j r, LV M d (bookD xs) ∧ BookOk xs ∧ confs xs = (i, j) :: r ∧ Q (.tup [.int (i : Nat), .int (j : Nat)]) M) ∨
  ∃ xs, LV M d (bookD xs) ∧ BookOk xs ∧ confs xs = [] ∧ ((FarB xs v ∧ Q (.int 1) M) ∨ (NearB xs v ∧ ∀ rest, Q .non (rest ++ M)))) : TStX C CB CU CT more (d :: .int v :: more) M (fun _ => Q .non) (EAsk3 CB CU CT Q) := by
  refine ⟨d, v, rfl, ?_⟩
  rcases h with ⟨a, b⟩ | ⟨xs, i, j, r, a, b, c, e⟩ | ⟨xs, a, b, c, ⟨e, f⟩ | ⟨e, f⟩⟩
  · exact .inl ⟨a, .inr ⟨0, rfl, rfl, b⟩⟩
  · exact .inr (.inl ⟨xs, i, j, r, a, b, c, .inl ⟨i, j, rfl, e⟩⟩)
  · exact .inr (.inr ⟨xs, a, b, c, .inl ⟨e, .inr ⟨1, rfl, rfl, f⟩⟩⟩)
  · exact .inr (.inr ⟨xs, a, b, c, .inr ⟨e, fun _ r => f r⟩⟩)
section
variable {P : Program} {w : World} {K : PySem.W.Frag} {mg : Str → Option Value} {base : Heap}
local macro_rules
  | `(tactic| walk_at "ok") => `(tactic| first
  | ((show BlkOk N_l_asked (defScope st_l_asked) _ _); exact blkOk_by (by decide +kernel)))
  | `(tactic| walk_at "eWECall") => `(tactic| first
  | ((with_reducible show WE _ _ (Expr.Call (Expr.Name _ _) _ _ _) _ _ _); walk_at "c")
  | ((with_reducible refine gC "isinstance" ?_); refine we_isi rfl (by assumption) ?_))
  | `(tactic| walk_at "eWE") => `(tactic| first
  | ((with_reducible show WE _ _ (Expr.Attribute _ "first" _) _ _ _); refine we_fld ?_)
  | ((with_reducible show WE _ _ (Expr.Attribute _ "second" _) _ _ _); refine we_fld ?_))
  | `(tactic| walk_at "n") => `(tactic| first
  | ((with_reducible show WE _ _ (Expr.Name "Unfit" _) _ _ _); refine we_glob (v := .ref _) rfl (by assumption) rfl (fun _ _ => .raw _) ?_)
  | ((with_reducible show WE _ _ (Expr.Name "RestError" _) _ _ _); refine we_glob (v := .ref _) rfl (by assumption) rfl (fun _ _ => .raw _) ?_)
  | ((with_reducible show WE _ _ (Expr.Name "InvalidBook" _) _ _ _); refine we_glob (v := .ref _) rfl (by assumption) rfl (fun _ _ => .raw _) ?_)
  | ((with_reducible show WE _ _ (Expr.Name "TooLarge" _) _ _ _); refine we_glob (v := .ref _) rfl (by assumption) rfl (fun _ _ => .raw _) ?_))
local macro_rules
  | `(tactic| walk_at "n") => `(tactic| first
  | ((with_reducible refine gN "e" ?_); refine we_nm 3 rfl rfl ?_)
  | ((with_reducible refine gN "_law_way" ?_); refine we_nm 0 rfl rfl ?_)
  | ((with_reducible refine gN "_law_thing_here" ?_); refine we_nm 1 rfl rfl ?_)
  | ((with_reducible refine gN "_law_value_here" ?_); refine we_nm 2 rfl rfl ?_))
  | `(tactic| walk_at "t") => `(tactic| first
  | ((with_reducible show WS _ _ (Stmt.Assign [Expr.Tuple _ _ _] _ _) _ _ _); refine ws_asg ?_))
  | `(tactic| walk_at "c") => `(tactic| first
  | ((with_reducible refine gCK "nearest_place" ?_); refine we_cl "nearest_place" ?_)
  | ((with_reducible refine gCK "places_for" ?_); refine we_cl "places_for" ?_)
  | ((with_reducible refine gCK "has_place" ?_); refine we_cl "has_place" ?_))
theorem fn_asked {f fU B : Addr} {fd : FuncData} {C CB CU CT : Addr} (c : ExcI K mg "Unfit" CU fU ["first", "second"]) (b_isi : mg "isinstance" = none) (gB : mg "RestError" = some (.ref B)) (gI : mg "InvalidBook" = some (.ref CB)) (gT : mg "TooLarge" = some (.ref CT))
    (n1 : PySem.W.exmOne K (.ref CB) (.ref CU) = some false) (n2 : PySem.W.exmOne K (.ref CT) (.ref CU) = some false) (kt : KitTab K [CB, CT] B)
    (d_for : FD P w K mg base 7 "places_for" 2 (TStX C CB CU CT [])) (d_has : FD P w K mg base 7 "has_place" 2 (TStX C CB CU CT [])) (d_near : FD P w K mg base 7 "nearest_place" 3 (TStX C CB CU CT [.int 7])) (Fn : L2.Fun K "_law_asked" "_law_asked" st_l_asked f fd) :
    FnOk P w K mg base (L2.CX P w) 8 f fd ["_law_way", "_law_thing_here", "_law_value_here"] (spG K (TAsk3 C)) := by
  refine fn_ok Fn sc_l_asked rfl (TAsk3_len C) ?_
  intro cdv A outer s H E N hr ds M Q X' h
  obtain ⟨way, d, v, rfl, hw, q⟩ := h
  obtain ⟨fP, _, _, gP, _⟩ := id d_for.ex
  obtain ⟨fH, _, _, gH, _⟩ := id d_has.ex
  show WB _ _ _ [some (.int way), some d, some (.int v), none] _ _
  refine wb_cons ?_
  refine ws_tryTwo2 (i := 3) (fun ex δ' M' => δ' = [some (.int way), some d, some (.int v), none] ∧ EAsk3 CB CU CT Q ex M') N rfl rfl rfl rfl ⟨rfl, by decide, .inl c.g⟩ ⟨rfl, by decide, .inl gB⟩ (fun pn xe N' => ?_) ?_
  · have q0 := ask_stx (CB := CB) (CU := CU) (CT := CT) (more := []) q
    have q7 := ask_stx (CB := CB) (CU := CU) (CT := CT) (more := [.int 7]) q
    walk_at "g"
    refine iteD (fun h2 => ?_) (fun h2 => ?_)
    · walk_at "g"
      refine we_callE ?_
      walk_at "g"
      refine we_lst ?_
      refine wa_cons (we_glob (v := .ref fP) rfl gP rfl (fun _ _ => .raw _) ?_)
      refine wa_cons (we_glob (v := .ref fH) rfl gH rfl (fun _ _ => .raw _) ?_)
      walk_at "g"
      rcases (show way = 0 ∨ way = 1 by omega) with rfl | rfl
      · refine ⟨_, rfl, "places_for", fP, 7, 2, _, rfl, gP, d_for, (by walk_at "r"), ?_⟩
        walk_at "g"
        refine TStX_mono _ _ _ _ _ _ _ _ _ _ _ (fun d M' z => ?_) (fun y M' z => ⟨rfl, z⟩) q0
        walk_at "g"
        exact z
      · refine ⟨_, rfl, "has_place", fH, 7, 2, _, rfl, gH, d_has, (by walk_at "r"), ?_⟩
        walk_at "g"
        refine TStX_mono _ _ _ _ _ _ _ _ _ _ _ (fun d M' z => ?_) (fun y M' z => ⟨rfl, z⟩) q0
        walk_at "g"
        exact z
    · walk_at "g"
      refine TStX_mono _ _ _ _ _ _ _ _ _ _ _ (fun d M' z => ?_) (fun y M' z => ⟨rfl, z⟩) q7
      walk_at "g"
      exact z
  · rintro ex δ' M' ⟨rfl, ⟨i, j, rfl, q⟩ | ⟨n, hn, hfs, q⟩⟩
    · refine .inl ⟨c.e, [("second", (j : Int)), ("first", (i : Int))], rfl, by simp, fun a dd oe pn hz hf => ?_⟩
      refine wb_one (ws_ret (we_tup ?_))
      refine wa_cons (we_xf (i := 3) c.F (c.no _ (by simp)) hz hf rfl (.inl rfl) rfl rfl ?_)
      refine wa_cons (we_xf (i := 3) c.F (c.no _ (by simp)) hz hf rfl (.inl rfl) rfl rfl ?_)
      refine wa_nil ⟨Nat.le_of_ble_eq_true rfl, ?_⟩
      exact q
    · have hn2 : n < 2 := (List.getElem?_eq_some_iff.mp hn).1
      have hX := kt.ex _ (List.mem_of_getElem? hn)
      refine .inr ⟨?_, kt.base _ (List.mem_of_getElem? hn), .inl hfs, fun a' od oe pn d hd hz hf => ?_⟩
      · rcases (show n = 0 ∨ n = 1 by omega) with rfl | rfl
        · rw [← Option.some.inj hn]; exact n1
        · rw [← Option.some.inj hn]; exact n2
      refine wb_one (ws_ret (we_indexB (we_lst ?_)))
      refine wa_cons (we_isX hX hz hf rfl (by assumption) (by decide +kernel) ?_)
      walk_at "g"
      refine ⟨_, _, _, rfl, hd, kt.kit n 0 _ _ hn rfl, ?_⟩
      refine wa_cons (we_isX hX hz hf rfl (by assumption) (by decide +kernel) ?_)
      walk_at "g"
      refine ⟨_, _, _, rfl, hd, kt.kit n 1 _ _ hn rfl, ?_⟩
      walk_at "g"
      refine ⟨⟨_, .l⟩, ?_⟩
      walk_at "g"
      refine ⟨[decide (n = 0), decide (n = 1), true], n, rfl, .l, ?_, ?_, ?_⟩
      · rcases (show n = 0 ∨ n = 1 by omega) with rfl | rfl <;> rfl
      · rcases (show n = 0 ∨ n = 1 by omega) with rfl | rfl <;> decide
      · exact q
end
/-- no book -/
def TBadB (C : Addr) : TSp := fun ds M Q _ => ∃ (b : Addr), ds = [.cel b] ∧ CL M b fun L f => BagL L ∧ ∀ L', BagL L' → (∀ d, Bad0 d → Q d (f L')) ∧ ∀ a c, BadC C c → Q (.cel a) ((a, c) :: f L')
theorem TBadB_mono (C : Addr) : Mono (TBadB C) := fun ds M Q Q' E E' h _ ⟨b, h1, h4⟩ => ⟨b, h1, h4.imp fun L f ⟨g1, g2⟩ => ⟨g1, fun L' a => ⟨fun d z => h _ _ ((g2 L' a).1 d z), fun x c z => h _ _ ((g2 L' a).2 x c z)⟩⟩⟩
theorem TBadB_len (C : Addr) : ∀ ds M Q E, TBadB C ds M Q E → ds.length = 1 := fun ds M Q E h => by obtain ⟨_, rfl, _⟩ := h; rfl
/-! OdF -/
theorem BadBk.cons {C : Addr} {M : Cells} {d : D} {x : Addr × Cell} (h : BadBk C M d) : BadBk C (x :: M) d := h.imp id fun ⟨a, k, c, h1, h2, h3⟩ => ⟨a, k + 1, c, h1, h2, h3⟩
section
variable {C : Addr} {r v : Int} {d : D} {M : Cells} {Q : D → Cells → Prop} {E : Ex → Cells → Prop} {xs : List (Int × Int)}
theorem ask_bad (h0 : 0 ≤ r) (h3 : r < 3) (h : BadBk C M d) (q : Q (.int 0) M) : TAsk3 C [.int r, d, .int v] M Q E := ⟨r.toNat, d, v, by rw [Int.toNat_of_nonneg h0], by omega, .inl ⟨h, q⟩⟩
theorem ask_unfit {i j : Nat} (h0 : 0 ≤ r) (h3 : r < 3) (hl : LV M d (bookD xs)) (hb : BookOk xs) (hc : ∃ r, confs xs = (i, j) :: r) (q : Q (.tup [.int (i : Nat), .int (j : Nat)]) M) : TAsk3 C [.int r, d, .int v] M Q E :=
  let ⟨r', e⟩ := hc
  ⟨r.toNat, d, v, by rw [Int.toNat_of_nonneg h0], by omega, .inr (.inl ⟨xs, i, j, r', hl, hb, e, q⟩)⟩
theorem ask_far (h0 : 0 ≤ r) (h3 : r < 3) (hl : LV M d (bookD xs)) (hb : BookOk xs) (hc : confs xs = []) (hf : FarB xs v) (q : Q (.int 1) M) : TAsk3 C [.int r, d, .int v] M Q E :=
  ⟨r.toNat, d, v, by rw [Int.toNat_of_nonneg h0], by omega, .inr (.inr ⟨xs, hl, hb, hc, .inl ⟨hf, q⟩⟩)⟩
theorem ask_near (h0 : 0 ≤ r) (h3 : r < 3) (hl : LV M d (bookD xs)) (hb : BookOk xs) (hc : confs xs = []) (hf : NearB xs v) (q : ∀ rest, Q .non (rest ++ M)) : TAsk3 C [.int r, d, .int v] M Q E :=
  ⟨r.toNat, d, v, by rw [Int.toNat_of_nonneg h0], by omega, .inr (.inr ⟨xs, hl, hb, hc, .inr ⟨hf, q⟩⟩)⟩
end
def linB (many : Nat) (f : Nat → Int) : List (Int × Int) := (List.range many).map fun k : Nat => (2 * (k : Int), f k)
theorem linB_len {many : Nat} {f : Nat → Int} : (linB many f).length = many := by unfold linB; rw [List.length_map, List.length_range]
theorem linB_at {many k : Nat} {f : Nat → Int} (h : k < many) : itAt (linB many f) k = (2 * (k : Int), f k) := by
  unfold itAt linB
  rw [List.getD_eq_getElem?_getD, List.getElem?_map, List.getElem?_range h]; rfl
theorem linB_mem {many : Nat} {f : Nat → Int} {x : Int × Int} (h : x ∈ linB many f) : ∃ k, k < many ∧ x = (2 * (k : Int), f k) := by
  obtain ⟨k, hk, rfl⟩ := List.mem_map.mp h
  exact ⟨k, List.mem_range.mp hk, rfl⟩
theorem linB_ok {many : Nat} {f : Nat → Int} (h : many ≤ 24) (hf : ∀ k, Small (f k)) : BookOk (linB many f) := by
  refine ⟨by rw [linB_len]; exact h, fun x hx => ?_, ?_⟩
  · obtain ⟨k, hk, rfl⟩ := linB_mem hx
    refine ⟨?_, hf k⟩
    show (2 * (k : Int)).natAbs ≤ 10 ^ 30
    have e : (10 : Nat) ^ 30 = 1000000000000000000000000000000 := by decide
    omega
  · unfold linB
    rw [List.map_map, List.pairwise_map]
    refine List.pairwise_lt_range.imp fun {a b} h => ?_
    show 2 * (a : Int) < 2 * (b : Int)
    omega
def bentF (spot k : Nat) : Int := if k = spot then 1 else 0
theorem bentF_small (spot k : Nat) : Small (bentF spot k) := by
  unfold bentF Small
  split <;> decide
def leastOf (spot : Nat) : Nat := if spot = 0 then 1 else spot
theorem bent_confs {many spot : Nat} (h2 : 2 ≤ many) (hs : spot < many) : ∃ r, confs (linB many (bentF spot)) = (0, leastOf spot) :: r := by
  have key : ∀ m, 1 ≤ m → m < many → (unfit (linB many (bentF spot)) 0 m = true ↔ (bentF spot m - bentF spot 0) % (2 * (m : Int)) ≠ 0) := fun m h1 hm => by
    rw [unfit_iff, linB_at hm, linB_at (show 0 < many by omega)]
    show (bentF spot m - bentF spot 0) % (2 * (m : Int) - 2 * ((0 : Nat) : Int)) ≠ 0 ↔ _
    rw [show (2 * (m : Int) - 2 * ((0 : Nat) : Int)) = 2 * (m : Int) by omega]
  have p1 : 1 ≤ leastOf spot := by unfold leastOf; split <;> omega
  have p2 : leastOf spot < many := by unfold leastOf; split <;> omega
  have e : leastOf spot = 0 + 1 + (leastOf spot - 1) := by omega
  have hu : unfit (linB many (bentF spot)) 0 (leastOf spot) = true := by
    rw [key _ p1 p2]
    unfold leastOf bentF
    by_cases h0 : spot = 0
    · subst h0
      decide
    · rw [if_neg h0, if_pos rfl, if_neg (by omega)]
      show (1 - 0 : Int) % (2 * (spot : Int)) ≠ 0
      rw [Int.emod_eq_of_lt (by decide) (by omega)]
      decide
  have hr : rowTo (linB many (bentF spot)) 0 (leastOf spot - 1) = [] := by
    unfold rowTo
    rw [List.map_eq_nil_iff, List.filter_eq_nil_iff]
    intro a ha hu'
    obtain ⟨m, hm, rfl⟩ := List.mem_map.mp ha
    have hm : m < leastOf spot - 1 := List.mem_range.mp hm
    rw [key _ (by omega) (by omega)] at hu'
    apply hu'
    have hs0 : spot ≠ 0 := fun z => by rw [z] at hm; simp [leastOf] at hm
    have hp : leastOf spot = spot := by unfold leastOf; rw [if_neg hs0]
    have z1 : bentF spot (0 + 1 + m) = 0 := by unfold bentF; rw [if_neg (by omega)]
    have z2 : bentF spot 0 = 0 := by unfold bentF; rw [if_neg (by omega)]
    rw [z1, z2]
    exact Int.zero_emod _
  have := confs_first (xs := linB many (bentF spot)) (i := 0) (k := leastOf spot - 1) rfl hr (by rw [← e]; exact hu) (by rw [linB_len]; omega)
  rw [← e] at this
  exact this
theorem good_confs (many : Nat) (low : Int) : confs (linB many fun _ => low) = [] := confs_nil.mpr fun x hx y hy => by
  obtain ⟨i, _, rfl⟩ := linB_mem hx
  obtain ⟨j, _, rfl⟩ := linB_mem hy
  show _ ∣ low - low
  rw [Int.sub_self]
  exact Int.dvd_zero _
theorem good_far {many : Nat} {low v : Int} (h : 0 < many) (hv : v = low + 1000000001 ∨ v = low - 1000000001) : FarB (linB many fun _ => low) v := by
  refine ⟨⟨(0, low), List.mem_map.mpr ⟨0, List.mem_range.mpr h, rfl⟩, by show low ≠ v; omega⟩, fun x hx _ => ?_⟩
  obtain ⟨k, _, rfl⟩ := linB_mem hx
  show 1000000000 < absI (v - low)
  unfold absI
  split <;> omega
theorem good_near {many : Nat} {low v : Int} (hv : v = low ∨ v = low + 1) : NearB (linB many fun _ => low) v := fun ⟨x, hx, hn⟩ => by
  refine ⟨x, hx, hn, ?_⟩
  obtain ⟨k, _, rfl⟩ := linB_mem hx
  show -180 ≤ v - low ∧ v - low ≤ 180
  omega
theorem nil_ok : BookOk [] := ⟨by decide, by simp, .nil⟩
theorem nil_near (v : Int) : NearB [] v := fun ⟨x, hx, _⟩ => by cases hx
theorem far_at {x y r : Int} (h0 : 0 ≤ r) (h1 : r < 3) : ∃ v, atI [D.int 0, .int x, .int y] r = some (.int v) := by
  obtain ⟨n, rfl⟩ : ∃ n : Nat, r = n := ⟨r.toNat, by omega⟩
  rcases (show n = 0 ∨ n = 1 ∨ n = 2 by omega) with rfl | rfl | rfl
  · exact ⟨_, rfl⟩
  · exact ⟨_, rfl⟩
  · exact ⟨_, rfl⟩
theorem two_atI {x y r : Int} (h0 : 0 ≤ r) (h1 : r < 2) : ∃ v, atI [D.int x, .int y] r = some (.int v) ∧ (v = x ∨ v = y) := by
  obtain ⟨n, rfl⟩ : ∃ n : Nat, r = n := ⟨r.toNat, by omega⟩
  rcases (show n = 0 ∨ n = 1 by omega) with rfl | rfl
  · exact ⟨_, rfl, .inl rfl⟩
  · exact ⟨_, rfl, .inr rfl⟩
theorem alk_rep {M : Cells} {n : Nat} {d e : D} {ds es : List D} {t : String} (h1 : Sq M d t ds) (h2 : Sq M e t es) (hds : ds = es) (hz : es.length ≤ 1000000) (h : ∀ x ∈ es, Alk M n x x) : Alk M (n + 1) d e := by
  subst hds
  exact .seq h1 h2 rfl hz fun i a b ha hb => by
    rw [ha] at hb
    cases hb
    exact h a (List.mem_of_getElem? ha)
theorem bookD_lin {many : Nat} {f : Nat → Int} {g : D → D} (h : ∀ k : Nat, k < many → g (.int (0 + (k : Nat))) = itemD (2 * (k : Int), f k)) : (rangeD 0 many).map g = bookD (linB many f) := by
  unfold bookD linB rangeD
  rw [List.map_map, List.map_map]
  exact List.map_congr_left fun k hk => h k (List.mem_range.mp hk)
/-! OdD -/
set_option exponentiation.threshold 100000
theorem tdraw {b : Addr} {wide : Int} {M : Cells} {Q : D → Cells → Prop} {E : Ex → Cells → Prop} (hw : 0 < wide) (hw2 : wide.natAbs < 2 ^ 2000) (h : CL M b fun L f => BagL L ∧ ∀ r L', 0 ≤ r → r < wide → BagL L' → Q (.int r) (f L')) : TDraw [.cel b, .int wide] M Q E := by
  obtain ⟨k, L, hk, hL, q⟩ := h
  exact ⟨b, k, L, wide, rfl, hk, hL, hw, hw2, q⟩
theorem cpw30 : CPw 10 30 := ⟨by decide, by have := intBits_le (i := 10) (n := 4) (by decide); omega⟩
def fP0 : D → D
  | .int i => .tup [.int 0, .int i]
  | _ => .non
def fK0 : D → D
  | .int i => .tup [.int i, .int 0]
  | _ => .non
theorem bad_one {d : D} (h : ItemK d) (no : itemOkD d = false) : Bad0 (.lst [d]) := .item (by decide : 1 ≤ 24) (fun x hx => by rw [List.mem_singleton.mp hx]; exact h) List.mem_cons_self no
theorem itk {xs : List D} (h : ∀ x ∈ xs, Flat1 x) : ItemK (.tup xs) := .inl ⟨xs, rfl, h⟩
def oddL (pd a : Addr) : List D := [.non, .tup [], .cel pd, .int 3, .str "0:1", .lst [.tup []], .lst [.tup [.int 0]], .lst [.tup [.int 0, .int 1, .int 2]], .lst [.lst [.int 0, .int 1]], .lst [.tup [.int 1, .int 0], .tup [.int 0, .int 0]]] ++
  [.lst [.tup [.int 0, .int 0], .tup [.int 0, .int 0]], .tup [.tup [.int 0, .int 1]], .bl true] ++ [.cel a, .lst [.tup [.str "0", .int 1]], .lst [.tup [.non, .int 1]], .lst ((rangeD 0 (Int.toNat 2)).map fP0), .lst ((rangeD 0 (Int.toNat 25)).map fK0)]
theorem sm0 {i : Int} (h : i.natAbs ≤ 10) : Small i := Nat.le_trans h (by decide)
theorem odd_at (pd a : Addr) {r : Int} (h0 : 0 ≤ r) (h1 : r < 18) : ∃ z, atI (oddL pd a) r = some z ∧ (Bad0 z ∨ z = .cel pd ∨ z = .cel a) := by
  obtain ⟨n, rfl⟩ : ∃ n : Nat, r = n := ⟨r.toNat, by omega⟩
  have hn : n < 18 := by omega
  have fl : ∀ {xs : List D}, (∀ x ∈ xs, Flat1 x) → ItemK (.tup xs) := fun h => itk h
  rcases (show n = 0 ∨ n = 1 ∨ n = 2 ∨ n = 3 ∨ n = 4 ∨ n = 5 ∨ n = 6 ∨ n = 7 ∨ n = 8 ∨ n = 9 ∨ n = 10 ∨ n = 11 ∨ n = 12 ∨ n = 13 ∨ n = 14 ∨ n = 15 ∨ n = 16 ∨ n = 17 by omega) with rfl | rfl | rfl | rfl | rfl | rfl | rfl | rfl | rfl | rfl | rfl | rfl | rfl | rfl | rfl | rfl | rfl | rfl
  · exact ⟨_, rfl, .inl .non⟩
  · exact ⟨_, rfl, .inl (.tup _)⟩
  · exact ⟨_, rfl, .inr (.inl rfl)⟩
  · exact ⟨_, rfl, .inl (.int _)⟩
  · exact ⟨_, rfl, .inl (.str _)⟩
  · exact ⟨_, rfl, .inl (bad_one (fl (by simp)) rfl)⟩
  · exact ⟨_, rfl, .inl (bad_one (fl (by simp [Flat1])) rfl)⟩
  · exact ⟨_, rfl, .inl (bad_one (fl (by simp [Flat1])) rfl)⟩
  · exact ⟨_, rfl, .inl (bad_one (.inr ⟨_, rfl⟩) rfl)⟩
  · exact ⟨_, rfl, .inl (.desc (y := (1, 0)) (z := (0, 0)) ⟨sm0 (by decide), sm0 (by decide), sm0 (by decide), sm0 (by decide)⟩ (by decide))⟩
  · exact ⟨_, rfl, .inl (.desc (y := (0, 0)) (z := (0, 0)) ⟨sm0 (by decide), sm0 (by decide), sm0 (by decide), sm0 (by decide)⟩ (by decide))⟩
  · exact ⟨_, rfl, .inl (.tup _)⟩
  · exact ⟨_, rfl, .inl (.bl _)⟩
  · exact ⟨_, rfl, .inr (.inr rfl)⟩
  · exact ⟨_, rfl, .inl (bad_one (fl (by simp [Flat1])) rfl)⟩
  · exact ⟨_, rfl, .inl (bad_one (fl (by simp [Flat1])) rfl)⟩
  · exact ⟨_, rfl, .inl (.desc (y := (0, 0)) (z := (0, 1)) ⟨sm0 (by decide), sm0 (by decide), sm0 (by decide), sm0 (by decide)⟩ (by decide))⟩
  · exact ⟨_, rfl, .inl (.long (by show 24 < 25; decide) (by show 25 ≤ 1000; decide))⟩
def wrL (x y : Int) : List D := [.non, .bl true, .str "1", .lst [.int 1], .tup [.int 1], .int x, .int y]
theorem wr_at {x y r : Int} (hx : x = 1000000000000000000000000000001) (hy : y = -1000000000000000000000000000001) (h0 : 0 ≤ r) (h1 : r < 7) : ∃ z, atI (wrL x y) r = some z ∧ Flat1 z ∧ toldD z = false := by
  obtain ⟨n, rfl⟩ : ∃ n : Nat, r = n := ⟨r.toNat, by omega⟩
  rcases (show n = 0 ∨ n = 1 ∨ n = 2 ∨ n = 3 ∨ n = 4 ∨ n = 5 ∨ n = 6 by omega) with rfl | rfl | rfl | rfl | rfl | rfl | rfl
  · exact ⟨_, rfl, trivial, rfl⟩
  · exact ⟨_, rfl, trivial, rfl⟩
  · exact ⟨_, rfl, trivial, rfl⟩
  · exact ⟨_, rfl, trivial, rfl⟩
  · exact ⟨_, rfl, trivial, rfl⟩
  · exact ⟨_, rfl, trivial, by rw [hx]; rfl⟩
  · exact ⟨_, rfl, trivial, by rw [hy]; rfl⟩
theorem two_at {z : D} {spot r : Int} (hz : Flat1 z) (ht : toldD z = false) (h0 : 0 ≤ r) (h1 : r < 2) : ∃ y, atI [.tup [z, .int 0], .tup [.int spot, z]] r = some y ∧ ItemK y ∧ itemOkD y = false := by
  obtain ⟨n, rfl⟩ : ∃ n : Nat, r = n := ⟨r.toNat, by omega⟩
  rcases (show n = 0 ∨ n = 1 by omega) with rfl | rfl
  · exact ⟨_, rfl, .inl ⟨_, rfl, fun x hx => by rcases List.mem_cons.mp hx with rfl | hx; exact hz; rw [List.mem_singleton.mp hx]; trivial⟩, by show (toldD z && _) = false; rw [ht]; rfl⟩
  · exact ⟨_, rfl, .inl ⟨_, rfl, fun x hx => by rcases List.mem_cons.mp hx with rfl | hx; trivial; rw [List.mem_singleton.mp hx]; exact hz⟩, by show (_ && toldD z) = false; rw [ht]; exact Bool.and_false _⟩
theorem ixN_nn {n : Nat} {i : Int} (h0 : 0 ≤ i) (h1 : i < n) : ixN n i = some i.toNat := by
  have := ixN_nat (n := n) (j := i.toNat) (by omega)
  rwa [Int.toNat_of_nonneg h0] at this
theorem bad_set {many : Nat} {spot : Int} {y : D} (h : many ≤ 24) (h0 : 0 ≤ spot) (h1 : spot < many) (hy : ItemK y) (no : itemOkD y = false) : Bad0 (.lst (((rangeD 0 many).map fK0).set spot.toNat y)) := by
  have hl : ((rangeD 0 many).map fK0).length = many := by rw [List.length_map, rangeD_len]
  refine .item (d := y) (by rw [List.length_set, hl]; exact h) (fun d hd => ?_) (List.mem_set (by rw [hl]; omega) y) no
  rcases List.mem_or_eq_of_mem_set hd with hd | rfl
  · obtain ⟨x, hx, rfl⟩ := List.mem_map.mp hd
    obtain ⟨j, hj⟩ := List.mem_iff_getElem?.mp hx
    obtain ⟨_, rfl⟩ := rangeD_inv hj
    exact itk (by simp [Flat1])
  · exact hy
section
variable {P : Program} {w : World} {K : PySem.W.Frag} {mg : Str → Option Value} {base : Heap}
local macro_rules
  | `(tactic| walk_at "ok") => `(tactic| first
  | ((show BlkOk N_l_bad_book (defScope st_l_bad_book) _ _); exact blkOk_by (by decide +kernel)))
  | `(tactic| walk_at "tS") => `(tactic| first
  | ((with_reducible refine gS "_law_odd" ?_); refine ws_st 1 ?_)
  | ((with_reducible refine gS "_law_many" ?_); refine ws_st 2 ?_)
  | ((with_reducible refine gS "_law_found" ?_); refine ws_st 3 ?_)
  | ((with_reducible refine gS "_law_wrong" ?_); refine ws_st 4 ?_)
  | ((with_reducible refine gS "_law_spot" ?_); refine ws_st 5 ?_))
  | `(tactic| walk_at "tG") => `(tactic| first
  | ((with_reducible refine gG "_law_k" ?_); refine wg_nm 6 ?_))
  | `(tactic| walk_at "eWECall") => `(tactic| first
  | ((with_reducible show WE _ _ (Expr.Call (Expr.Name _ _) _ _ _) _ _ _); walk_at "c"))
local macro_rules
  | `(tactic| walk_at "eWECall") => `(tactic| first
  | ((with_reducible show WE _ _ (Expr.Call (Expr.Name "Notebook" _) [] [] _) _ _ _); refine we_mk (by assumption) (by walk_at "r") rfl ?_))
  | `(tactic| walk_at "n") => `(tactic| first
  | ((with_reducible show WE _ _ (Expr.Name "Notebook" _) _ _ _); refine we_glob (v := .ref _) rfl (by assumption) rfl (fun _ _ => .raw _) ?_))
local macro_rules
  | `(tactic| walk_at "n") => `(tactic| first
  | ((with_reducible refine gN "_law_bag_here" ?_); refine we_nm 0 rfl rfl ?_)
  | ((with_reducible refine gN "_law_odd" ?_); refine we_nm 1 rfl rfl ?_)
  | ((with_reducible refine gN "_law_k" ?_); refine we_nm 6 rfl rfl ?_)
  | ((with_reducible refine gN "_law_many" ?_); refine we_nm 2 rfl rfl ?_)
  | ((with_reducible refine gN "_law_found" ?_); refine we_nm 3 rfl rfl ?_)
  | ((with_reducible refine gN "_law_wrong" ?_); refine we_nm 4 rfl rfl ?_)
  | ((with_reducible refine gN "_law_spot" ?_); refine we_nm 5 rfl rfl ?_))
  | `(tactic| walk_at "t") => `(tactic| first
  | ((with_reducible show WS _ _ (Stmt.Assign [Expr.Name _ _] _ _) _ _ _); walk_at "tS")
  | ((with_reducible show WG _ _ (Expr.Name _ _) _ _ _ _); walk_at "tG")
  | ((with_reducible show WS _ _ (Stmt.Assign [Expr.Tuple _ _ _] _ _) _ _ _); refine ws_asg ?_))
  | `(tactic| walk_at "c") => `(tactic| first
  | ((with_reducible refine gCK "_law_draw" ?_); refine we_cl "_law_draw" ?_))
  | `(tactic| walk_at "tg") => `(tactic| first
  | exact Tg.one (i := 6) rfl rfl)
  | `(tactic| walk_at "eWE") => `(tactic| ((with_reducible show WE _ _ (Expr.List _ _) _ _ _); refine we_lst ?_))
theorem fn_bad_book {f : Addr} {fd : FuncData} {C : Addr} (b_range : mg "range" = none) (d_draw : FD P w K mg base 2 "_law_draw" 2 TDraw) (mk : FMk P w K mg base 1 "Notebook" C (TInit C)) (Fn : L2.Fun K "_law_bad_book" "_law_bad_book" st_l_bad_book f fd) :
    FnOk P w K mg base (L2.CX P w) 3 f fd ["_law_bag_here"] (spG K (TBadB C)) := by
  refine fn_ok Fn sc_l_bad_book rfl (TBadB_len C) ?_
  intro cdv A outer s H E N hr ds M Q X' h
  obtain ⟨b, rfl, kb, L, hM, hL, q⟩ := h
  show WB _ _ _ [some _, none, none, none, none, none, none] _ _
  refine wb_cons ?_
  walk_at "g"
  refine we_dctC fun pd => ?_
  walk_at "g"
  refine .inr (.inr ⟨_, _, .l, .l, by show 13 ≤ sizeLine; decide, ?_⟩)
  walk_at "g"
  intro a dx
  refine ⟨a, 0, dx, rfl, rfl, rfl, ?_⟩
  walk_at "g"
  refine we_froz 0 (we_lcM fP0 N (by walk_at "tg") (by walk_at "ok") (wi_range1 rfl (by assumption) ?_))
  walk_at "g"
  refine ⟨by decide, by decide, by rw [rangeD_len, sizeLine_eq]; decide, fun _ _ => trivial, ?_, ?_⟩
  · intro j d' acc p hd
    obtain ⟨hj, rfl⟩ := rangeD_inv hd
    refine ⟨_, rfl, fun B' => ?_⟩
    walk_at "g"
    exact ⟨rfl, rfl⟩
  intro p1
  refine ⟨p1, _, rfl, rfl, ?_⟩
  walk_at "g"
  refine we_froz 0 (we_lcM fK0 N (by walk_at "tg") (by walk_at "ok") (wi_range1 rfl (by assumption) ?_))
  walk_at "g"
  refine ⟨by decide, by decide, by rw [rangeD_len, sizeLine_eq]; decide, fun _ _ => trivial, ?_, ?_⟩
  · intro j d' acc p hd
    obtain ⟨hj, rfl⟩ := rangeD_inv hd
    refine ⟨_, rfl, fun B' => ?_⟩
    walk_at "g"
    exact ⟨rfl, rfl⟩
  intro p2
  refine ⟨p2, _, rfl, rfl, ?_⟩
  walk_at "g"
  refine .inr (.inr ⟨_, _, .l, .l, by show 18 ≤ sizeLine; decide, ?_⟩)
  walk_at "g"
  show TDraw _ ((a, Cell.ins C dx (NbF [[]])) :: (pd, Cell.dct []) :: M) _ _
  refine tdraw (by decide) (by decide) (cl_skip (cl_skip (cl_k hM ⟨hL, fun r1 L1 h10 h11 hL1 => ?_⟩)))
  walk_at "g"
  refine iteD (fun hr1 => ?_) (fun hr1 => ?_)
  · refine wb_one (ws_ret (WE.few ?_))
    walk_at "g"
    refine tdraw (by decide) (by decide) (cl_skip (cl_skip (cl_set hM ⟨hL1, fun r2 L2 h20 h21 hL2 => ?_⟩)))
    obtain ⟨z, hz, hb⟩ := odd_at pd a h20 h21
    walk_at "g"
    refine ⟨z, hz, ?_⟩
    obtain ⟨g1, g2⟩ := q L2 hL2
    rcases hb with hb | rfl | rfl
    · exact ⟨_, List.Sublist.cons _ (List.sublist_cons_self _ _), g1 z hb⟩
    · exact ⟨_, List.sublist_cons_self _ _, g2 pd (.dct []) trivial⟩
    · exact ⟨_, List.Sublist.cons₂ _ (List.sublist_cons_self _ _), g2 a (.ins C dx _) rfl⟩
  refine wb_drop (M0 := M.set kb (b, .lst L1)) (List.Sublist.cons _ (List.sublist_cons_self _ _)) ?_
  walk_at "g"
  refine tdraw (by decide) (by decide) (cl_set hM ⟨hL1, fun r2 L2 h20 h21 hL2 => ?_⟩)
  walk_at "g"
  obtain ⟨many, hmn⟩ : ∃ n : Nat, (n : Int) = 1 + r2 := ⟨(1 + r2).toNat, by omega⟩
  have hm1 : 1 ≤ many ∧ many ≤ 24 := by omega
  rw [← hmn]
  walk_at "g"
  refine ws_setLC (i := 3) N rfl rfl (lc_lcM fK0 N (by walk_at "tg") (by walk_at "ok") (wi_range1 rfl (by assumption) ?_))
  walk_at "g"
  refine ⟨by omega, by omega, by rw [rangeD_len, sizeLine_eq]; omega, fun _ _ => trivial, ?_, ?_⟩
  · intro j d' acc p hd
    obtain ⟨hj, rfl⟩ := rangeD_inv hd
    refine ⟨_, rfl, fun B' => ?_⟩
    walk_at "g"
    exact ⟨rfl, rfl⟩
  intro p1
  walk_at "g"
  any_goals exact cpw30
  refine tdraw (by decide) (by decide) (cl_skip (cl_set hM ⟨hL2, fun r3 L3 h30 h31 hL3 => ?_⟩))
  obtain ⟨z, hz, hz1, hz2⟩ := wr_at (x := 10 ^ Int.toNat 30 + 1) (y := 0 - 10 ^ Int.toNat 30 - 1) (by decide) (by decide) h30 h31
  walk_at "g"
  refine ⟨z, hz, ?_⟩
  walk_at "g"
  refine tdraw (by omega) (by omega) (cl_skip (cl_set hM ⟨hL3, fun r4 L4 h40 h41 hL4 => ?_⟩))
  walk_at "g"
  refine tdraw (by decide) (by decide) (cl_skip (cl_set hM ⟨hL4, fun r5 L5 h50 h51 hL5 => ?_⟩))
  obtain ⟨y, hy, hy1, hy2⟩ := two_at (spot := r4) hz1 hz2 h50 h51
  walk_at "g"
  refine ⟨y, hy, ?_⟩
  walk_at "g"
  refine ⟨r4.toNat, ixN_nn h40 (by rw [List.length_map, rangeD_len]; show r4 < many; exact h41), ?_⟩
  refine wb_one (ws_ret (we_froz 0 ?_))
  walk_at "g"
  refine ⟨p1, _, rfl, rfl, ?_⟩
  exact (q L5 hL5).1 _ (bad_set hm1.2 h40 h41 hy1 hy2)
end
/-! OdE -/
set_option exponentiation.threshold 100000
def TLaw : TSp := fun ds M Q _ => ∃ ns : List Int, ds = [.lst (ns.map D.int)] ∧ ns.length ≤ 63 ∧ ∀ M', Q (.bl true) M'
theorem TLaw_len : ∀ ds M Q E, TLaw ds M Q E → ds.length = 1 := fun ds M Q E h => by obtain ⟨_, rfl, _⟩ := h; rfl
theorem tdraw' {b : Addr} {wide : Int} {M : Cells} {Q : D → Cells → Prop} {E : Ex → Cells → Prop} (hw : 0 < wide) (hw2 : wide.natAbs < 2 ^ 2000) (h : CL M b fun L f => BagL L ∧ ∀ r L', 0 ≤ r → r < wide → BagL L' → Q (.int r) (f L')) : TDraw [.cel b, .int wide] M Q E := by
  obtain ⟨k, L, hk, hL, q⟩ := h
  exact ⟨b, k, L, wide, rfl, hk, hL, hw, hw2, q⟩
theorem tbad {C b : Addr} {M : Cells} {Q : D → Cells → Prop} {E : Ex → Cells → Prop} (h : CL M b fun L f => BagL L ∧ ∀ L' pre d, BagL L' → (∀ M1, BadBk C (pre ++ M1) d) → Q d (pre ++ f L')) : TBadB C [.cel b] M Q E :=
  ⟨b, rfl, h.imp fun L f ⟨g1, g2⟩ => ⟨g1, fun L' hL' => ⟨fun d hd => g2 L' [] d hL' fun _ => .inl hd, fun a c hc => g2 L' [(a, c)] (.cel a) hL' fun _ => .inr ⟨a, 0, c, rfl, rfl, hc⟩⟩⟩⟩
theorem alkL {M : Cells} {n : Nat} {ds es : List D} (e : ds = es) (hz : es.length ≤ 1000000) (h : ∀ x ∈ es, Alk M n x x) : Alk M (n + 1) (.lst ds) (.lst es) := alk_rep (.inl ⟨rfl, .inl rfl⟩) (.inl ⟨rfl, .inl rfl⟩) e hz h
theorem cpw30' : CPw 10 30 := ⟨by decide, by have := intBits_le (i := 10) (n := 4) (by decide); omega⟩
theorem cpw20 : CPw 10 20 := ⟨by decide, by have := intBits_le (i := 10) (n := 4) (by decide); omega⟩
theorem cpw19 : CPw 10 19 := ⟨by decide, by have := intBits_le (i := 10) (n := 4) (by decide); omega⟩
theorem cpw9 : CPw 10 9 := ⟨by decide, by have := intBits_le (i := 10) (n := 4) (by decide); omega⟩
theorem cl_pre {b : Addr} {R : List D → (List D → Cells) → Prop} {M : Cells} : ∀ {M2 : Cells}, CL M b (fun ds f => R ds (fun ds' => M2 ++ f ds')) → CL (M2 ++ M) b R
  | [], h => h
  | c :: M2, h => cl_skip (cl_pre (M2 := M2) (R := fun ds f => R ds (fun ds' => c :: f ds')) h)
theorem if_we {X : Cx} {P : XP} {M : Cells} {δ : Slots} {c : Bool} {a b : Expr} {d e : D} {Q : D → Cells → Prop} (ha : ∀ Q : D → Cells → Prop, Q d M → WE X P a δ M Q) (hb : ∀ Q : D → Cells → Prop, Q e M → WE X P b δ M Q) (q : Q (if c = true then d else e) M) : if c = true then WE X P a δ M Q else WE X P b δ M Q := by
  cases c
  · exact hb Q q
  · exact ha Q q
theorem leastT (spot : Nat) : (if decide ((spot : Int) = 0) = true then D.tup [.int 0, .int 1] else .tup [.int 0, .int spot]) = .tup [.int (0 : Nat), .int (leastOf spot : Nat)] := by
  unfold leastOf
  by_cases h : spot = 0
  · rw [if_pos (decide_eq_true (by omega)), if_pos h]; rfl
  · rw [if_neg (by rw [decide_eq_true_eq]; omega), if_neg h]; rfl
def fSp (spot : Nat) : D → D
  | .int i => .tup [.int (2 * i), .int (2 * (if decide (i = (spot : Int)) = true then 1 else 0) - (if decide (i = (spot : Int)) = true then 1 else 0))]
  | _ => .non
def fLo (low : Int) : D → D
  | .int i => .tup [.int (2 * i), .int low]
  | _ => .non
theorem book_bent {many spot : Nat} : (rangeD 0 many).map (fSp spot) = bookD (linB many (bentF spot)) := bookD_lin fun k _ => by
  show D.tup _ = D.tup _
  unfold bentF
  by_cases h : k = spot
  · rw [if_pos (decide_eq_true (by omega)), if_pos h]; simp
  · rw [if_neg (by rw [decide_eq_true_eq]; omega), if_neg h]; simp
theorem book_good {many : Nat} {low : Int} : (rangeD 0 many).map (fLo low) = bookD (linB many fun _ => low) := bookD_lin fun k _ => by
  show D.tup _ = D.tup _
  simp
section
variable {P : Program} {w : World} {K : PySem.W.Frag} {mg : Str → Option Value} {base : Heap}
local macro_rules
  | `(tactic| walk_at "ok") => `(tactic| first
  | ((show BlkOk N_law (defScope st_law) _ _); exact blkOk_by (by decide +kernel)))
  | `(tactic| walk_at "tS") => `(tactic| first
  | ((with_reducible refine gS "_law_bag_here" ?_); refine ws_st 1 ?_)
  | ((with_reducible refine gS "_law_many" ?_); refine ws_st 5 ?_)
  | ((with_reducible refine gS "_law_spot" ?_); refine ws_st 6 ?_)
  | ((with_reducible refine gS "_law_some" ?_); refine ws_st 7 ?_)
  | ((with_reducible refine gS "_law_pair" ?_); refine ws_st 8 ?_)
  | ((with_reducible refine gS "_law_low" ?_); refine ws_st 9 ?_)
  | ((with_reducible refine gS "_law_good" ?_); refine ws_st 10 ?_)
  | ((with_reducible refine gS "_law_told" ?_); refine ws_st 11 ?_))
  | `(tactic| walk_at "tG") => `(tactic| first
  | ((with_reducible refine gG "_law_turn" ?_); refine wg_nm 2 ?_)
  | ((with_reducible refine gG "_law_bad" ?_); refine wg_nm 3 ?_)
  | ((with_reducible refine gG "_law_far" ?_); refine wg_nm 4 ?_)
  | ((with_reducible refine gG "_law_k" ?_); refine wg_nm 12 ?_)
  | ((with_reducible refine gG "_law_way" ?_); refine wg_nm 13 ?_))
  | `(tactic| walk_at "eWECall") => `(tactic| first
  | ((with_reducible show WE _ _ (Expr.Call (Expr.Name _ _) _ _ _) _ _ _); walk_at "c")
  | ((with_reducible refine gC "int" ?_); refine we_int2 rfl (by assumption) ?_))
  | `(tactic| walk_at "n") => `(tactic| first
  | ((with_reducible refine gN "_law_bag_here" ?_); refine we_nm 1 rfl rfl ?_)
  | ((with_reducible refine gN "_law_way" ?_); refine we_nm 13 rfl rfl ?_)
  | ((with_reducible refine gN "_law_spot" ?_); refine we_nm 6 rfl rfl ?_)
  | ((with_reducible refine gN "_law_k" ?_); refine we_nm 12 rfl rfl ?_)
  | ((with_reducible refine gN "_law_many" ?_); refine we_nm 5 rfl rfl ?_)
  | ((with_reducible refine gN "_law_low" ?_); refine we_nm 9 rfl rfl ?_)
  | ((with_reducible refine gN "_law_far" ?_); refine we_nm 4 rfl rfl ?_)
  | ((with_reducible refine gN "_law_good" ?_); refine we_nm 10 rfl rfl ?_)
  | ((with_reducible refine gN "_law_told" ?_); refine we_nm 11 rfl rfl ?_)
  | ((with_reducible show WE _ _ (Expr.Name "int" _) _ _ _); refine we_bltn (v := .ty "int") rfl (by assumption) (by decide +kernel) rfl ?_)
  | ((with_reducible refine gN "_law_script" ?_); refine we_nm 0 rfl rfl ?_)
  | ((with_reducible refine gN "_law_bad" ?_); refine we_nm 3 rfl rfl ?_)
  | ((with_reducible refine gN "_law_some" ?_); refine we_nm 7 rfl rfl ?_)
  | ((with_reducible refine gN "_law_pair" ?_); refine we_nm 8 rfl rfl ?_))
  | `(tactic| walk_at "t") => `(tactic| first
  | ((with_reducible show WS _ _ (Stmt.Assign [Expr.Name _ _] _ _) _ _ _); walk_at "tS")
  | ((with_reducible show WG _ _ (Expr.Name _ _) _ _ _ _); walk_at "tG")
  | ((with_reducible show WS _ _ (Stmt.Assign [Expr.Tuple [Expr.Name "_law_bad" _, Expr.Name "_law_far" _] _ _] (Expr.Tuple _ _ _) _) _ _ _); first | refine ws_par (i := 3) (j := 4) (by assumption) rfl rfl (by decide) rfl rfl rfl ?_ | refine ws_asg ?_)
  | ((with_reducible show WS _ _ (Stmt.Assign [Expr.Tuple _ _ _] _ _) _ _ _); refine ws_asg ?_))
  | `(tactic| walk_at "c") => `(tactic| first
  | ((with_reducible refine gCK "_law_draw" ?_); refine we_cl "_law_draw" ?_)
  | ((with_reducible refine gCK "_law_asked" ?_); refine we_cl "_law_asked" ?_)
  | ((with_reducible refine gCK "_law_alike" ?_); refine we_cl "_law_alike" ?_)
  | ((with_reducible refine gCK "_law_bag" ?_); refine we_cl "_law_bag" ?_)
  | ((with_reducible refine gCK "_law_bad_book" ?_); refine we_cl "_law_bad_book" ?_))
  | `(tactic| walk_at "tg") => `(tactic| first
  | exact Tg.one (i := 12) rfl rfl
  | exact Tg.one (i := 13) rfl rfl)
  | `(tactic| walk_at "eWE") => `(tactic| ((with_reducible show WE _ _ (Expr.BinOp (Expr.List _ _) Operator.Mult _ _) _ _ _); refine we_mulL (we_lstC ?_)))
local macro_rules | `(tactic| walk_at "eWE") => `(tactic| ((with_reducible show WE _ _ (Expr.List _ _) _ _ _); refine we_lst ?_))
theorem fn_law {f : Addr} {fd : FuncData} {C : Addr} (b_range : mg "range" = none) (b_int : mg "int" = none) (d_bag : FD P w K mg base 1 "_law_bag" 1 TBag) (d_draw : FD P w K mg base 2 "_law_draw" 2 TDraw) (d_alike : FD P w K mg base 3 "_law_alike" 2 (TAlk 2))
    (d_bad : FD P w K mg base 3 "_law_bad_book" 1 (TBadB C)) (d_asked : FD P w K mg base 8 "_law_asked" 3 (TAsk3 C))
    (Fn : L2.Fun K "law" "law" st_law f fd) : FnOk P w K mg base (L2.CX P w) 9 f fd ["_law_script"] (spG K TLaw) := by
  refine fn_ok Fn sc_law rfl TLaw_len ?_
  intro cdv A outer s H E N hr ds M Q X' h
  obtain ⟨ns, rfl, hns, q⟩ := h
  show WB _ _ _ [some _, none, none, none, none, none, none, none, none, none, none, none, none, none] _ _
  refine wb_cons ?_
  walk_at "g"
  refine ⟨ns, rfl, by omega, fun b L hL => ?_⟩
  refine wb_cons ?_
  refine ws_for N (wi_range1 rfl (by assumption) ?_)
  walk_at "g"
  refine ⟨by decide, by decide, fun j δ' M' => ∃ (x2 x3 x4 x5 x6 x7 x8 x9 x10 x11 : Option D) (rest : Cells) (L' : List D), δ' = [some (.lst (ns.map D.int)), some (.cel b), x2, x3, x4, x5, x6, x7, x8, x9, x10, x11, none, none] ∧ M' = rest ++ (b, .lst L') :: M ∧ BagL L', ?_, fun _ _ _ _ _ => trivial, ?_, ?_⟩
  · exact ⟨_, _, _, _, _, _, _, _, _, _, [], L, rfl, rfl, hL⟩
  · rintro j d δ' M' hd ⟨x2, x3, x4, x5, x6, x7, x8, x9, x10, x11, rest, L0, rfl, rfl, hL0⟩
    obtain ⟨hj, rfl⟩ := rangeD_inv hd
    walk_at "s"
    refine wb_drop (List.sublist_append_right _ _) ?_
    walk_at "g"
    refine tbad (cl_0 ⟨hL0, fun L1 pre bad hL1 hbad => ?_⟩)
    walk_at "g"
    all_goals (try exact cpw30')
    refine tdraw' (by decide) (by decide) (cl_pre (cl_0 ⟨hL1, fun r1 L1 h10 h11 hL1 => ?_⟩))
    obtain ⟨far, hf⟩ := far_at (x := 10 ^ Int.toNat 30) (y := 0 - 10 ^ Int.toNat 30) h10 h11
    walk_at "g"
    refine ⟨_, hf, ?_⟩
    walk_at "g"
    refine we_froz 0 (we_lcM (fun _ => .int 0) N (by walk_at "tg") (by walk_at "ok") (wi_range1 rfl (by assumption) ?_))
    walk_at "g"
    refine ⟨by decide, by decide, by rw [rangeD_len, sizeLine_eq]; decide, fun _ _ => trivial, ?_, ?_⟩
    · intro i d' acc p hd
      obtain ⟨hi, rfl⟩ := rangeD_inv hd
      have hi : i < 3 := hi
      refine ⟨_, rfl, fun B' => ?_⟩
      walk_at "g"
      refine ask_bad (by omega) (by omega) (BadBk.cons (hbad _)) ?_
      exact ⟨rfl, rfl⟩
    intro p1
    refine ⟨p1, _, rfl, rfl, ?_⟩
    walk_at "g"
    refine ⟨_, _, rfl, alkL (es := [.int 0, .int 0, .int 0]) rfl (by decide) (fun x hx => ?_), _, rfl, iteQ rfl ?_⟩
    · simp only [List.mem_cons, List.not_mem_nil, or_false] at hx
      rcases hx with rfl | rfl | rfl <;> exact .int _
    refine wb_drop (M0 := (b, .lst L1) :: M) (List.sublist_append_right _ _) ?_
    walk_at "g"
    refine tdraw' (by decide) (by decide) (cl_0 ⟨hL1, fun r2 L2 h20 h21 hL2 => ?_⟩)
    walk_at "g"
    obtain ⟨many, hmn⟩ : ∃ n : Nat, (n : Int) = 3 + r2 := ⟨(3 + r2).toNat, by omega⟩
    have hm1 : 3 ≤ many ∧ many ≤ 24 := by omega
    rw [← hmn]
    walk_at "g"
    refine tdraw' (by omega) (by omega) (cl_0 ⟨hL2, fun r3 L3 h30 h31 hL3 => ?_⟩)
    walk_at "g"
    obtain ⟨spot, hsp⟩ : ∃ n : Nat, (n : Int) = r3 := ⟨r3.toNat, by omega⟩
    rw [← hsp]
    walk_at "g"
    refine we_froz 0 (we_lcM (fSp spot) N (by walk_at "tg") (by walk_at "ok") (wi_range1 rfl (by assumption) ?_))
    walk_at "g"
    refine ⟨by omega, by omega, by rw [rangeD_len, sizeLine_eq]; omega, fun _ _ => trivial, ?_, ?_⟩
    · intro k d' acc p hd
      obtain ⟨hk, rfl⟩ := rangeD_inv hd
      refine ⟨_, rfl, fun B' => ?_⟩
      walk_at "g"
      all_goals (try exact IntMulOk.of_left (by decide))
      refine .inr (.inl ⟨_, rfl, _, _, rfl, rfl, IntMulOk.of_left (by decide), ?_⟩)
      walk_at "g"
      refine .inr (.inl ⟨_, rfl, ?_⟩)
      walk_at "g"
      exact ⟨rfl, rfl⟩
    intro p2
    refine ⟨p2, _, rfl, rfl, ?_⟩
    walk_at "g"
    refine if_we (d := .tup [.int 0, .int 1]) (e := .tup [.int 0, .int spot]) (fun Q q => ?_) (fun Q q => ?_) ?_
    · walk_at "g"; exact q
    · walk_at "g"; exact q
    rw [leastT]
    walk_at "g"
    refine we_froz 0 (we_lcM (fun _ => .tup [.int (0 : Nat), .int (leastOf spot : Nat)]) N (by walk_at "tg") (by walk_at "ok") (wi_range1 rfl (by assumption) ?_))
    walk_at "g"
    refine ⟨by decide, by decide, by rw [rangeD_len, sizeLine_eq]; decide, fun _ _ => trivial, ?_, ?_⟩
    · intro i d' acc p hd
      obtain ⟨hi, rfl⟩ := rangeD_inv hd
      have hi : i < 3 := hi
      refine ⟨_, rfl, fun B' => ?_⟩
      walk_at "g"
      refine ask_unfit (xs := linB many (bentF spot)) (i := 0) (j := leastOf spot) (by omega) (by omega) (.inl (congrArg D.lst book_bent)) (linB_ok hm1.2 (bentF_small spot)) (bent_confs (by omega) (by omega)) ?_
      exact ⟨rfl, rfl⟩
    intro p3
    refine ⟨p3, _, rfl, rfl, ?_⟩
    walk_at "g"
    intro p4
    walk_at "g"
    refine ⟨0, p4, [.tup [.int (0 : Nat), .int (leastOf spot : Nat)]], 3, rfl, rfl, rfl, by decide, by decide, by show 1 * _ ≤ sizeLine; rw [sizeLine_eq]; decide, ?_⟩
    walk_at "g"
    refine ⟨_, _, rfl, alkL (es := [.tup [.int (0 : Nat), .int (leastOf spot : Nat)], .tup [.int (0 : Nat), .int (leastOf spot : Nat)], .tup [.int (0 : Nat), .int (leastOf spot : Nat)]]) rfl (by show 3 ≤ 1000000; decide) (fun x hx => ?_), _, rfl, iteQ rfl ?_⟩
    · have hx : x = .tup [.int (0 : Nat), .int (leastOf spot : Nat)] := by simpa using hx
      subst hx
      refine alk_rep (.inr ⟨rfl, rfl⟩) (.inr ⟨rfl, rfl⟩) rfl (by show 2 ≤ 1000000; decide) fun y hy => ?_
      simp only [List.mem_cons, List.not_mem_nil, or_false] at hy
      rcases hy with rfl | rfl <;> exact .int _
    walk_at "g"
    all_goals (try exact cpw20)
    all_goals (try exact cpw19)
    refine tdraw' (by decide) (by decide) (cl_0 ⟨hL3, fun r4 L4 h40 h41 hL4 => ?_⟩)
    walk_at "g"
    all_goals (try exact cpw19)
    obtain ⟨low, hlo⟩ : ∃ n : Int, n = r4 - 10 ^ Int.toNat 19 := ⟨_, rfl⟩
    have hsm : Small low := by
      have e1 : (10 : Int) ^ Int.toNat 19 = 10000000000000000000 := by decide
      have e2 : (10 : Int) ^ Int.toNat 20 = 100000000000000000000 := by decide
      have e3 : (10 : Nat) ^ 30 = 1000000000000000000000000000000 := by decide
      rw [e1] at hlo
      rw [e2] at h41
      unfold Small
      omega
    rw [← hlo]
    walk_at "g"
    refine we_froz 0 (we_lcM (fLo low) N (by walk_at "tg") (by walk_at "ok") (wi_range1 rfl (by assumption) ?_))
    walk_at "g"
    refine ⟨by omega, by omega, by rw [rangeD_len, sizeLine_eq]; omega, fun _ _ => trivial, ?_, ?_⟩
    · intro k d' acc p hd
      obtain ⟨hk, rfl⟩ := rangeD_inv hd
      refine ⟨_, rfl, fun B' => ?_⟩
      walk_at "g"
      all_goals (try exact IntMulOk.of_left (by decide))
      exact ⟨rfl, rfl⟩
    intro p5
    refine ⟨p5, _, rfl, rfl, ?_⟩
    walk_at "g"
    have hbk : BookOk (linB many fun _ => low) := linB_ok hm1.2 fun _ => hsm
    have e9 : (10 : Int) ^ Int.toNat 9 = 1000000000 := by decide
    refine ws_setLC (i := 11) N rfl rfl (lc_froz 0 (lc_lc N (by walk_at "tg") (by walk_at "ok") (wi_range1 rfl (by assumption) ?_)))
    walk_at "g"
    refine ⟨by decide, by decide, fun i acc M' => ∃ L', M' = (b, .lst L') :: M ∧ BagL L' ∧ acc = List.replicate i (.int 1), ⟨L4, rfl, hL4, rfl⟩, fun _ _ _ _ _ _ => trivial, ?_, ?_⟩
    · rintro i d' acc M' p hd ⟨L5, rfl, hL5, rfl⟩
      obtain ⟨hi, rfl⟩ := rangeD_inv hd
      have hi : i < 3 := hi
      refine ⟨_, rfl, fun B' => ?_⟩
      walk_at "g"
      all_goals (try exact cpw9)
      refine tdraw' (by decide) (by decide) (cl_skip (cl_0 ⟨hL5, fun r6 L6 h60 h61 hL6 => ?_⟩))
      obtain ⟨v, hv, hv2⟩ := two_atI (x := 10 ^ Int.toNat 9 + 1) (y := 0 - 10 ^ Int.toNat 9 - 1) h60 h61
      rw [e9] at hv2
      walk_at "g"
      refine ⟨_, hv, ?_⟩
      walk_at "g"
      refine ask_far (xs := linB many fun _ => low) (by omega) (by omega) (.inl (congrArg D.lst book_good)) hbk (good_confs _ _) (good_far (by omega) (by omega)) ?_
      exact ⟨_, _, rfl, by rw [List.length_replicate, sizeLine_eq]; omega, L6, rfl, hL6, List.replicate_succ'.symm⟩
    rintro acc M' p6 ⟨L5, rfl, hL5, rfl⟩
    refine ⟨p6, _, rfl, rfl, ?_⟩
    walk_at "g"
    refine we_froz 0 (we_lc N (by walk_at "tg") (by walk_at "ok") (wi_range1 rfl (by assumption) ?_))
    walk_at "g"
    refine ⟨by decide, by decide, fun i acc M' => ∃ L', M' = (b, .lst L') :: M ∧ BagL L' ∧ acc = List.replicate i .non, ⟨L5, rfl, hL5, rfl⟩, fun _ _ _ _ _ _ => trivial, ?_, ?_⟩
    · rintro i d' acc M' p hd ⟨L5, rfl, hL5, rfl⟩
      obtain ⟨hi, rfl⟩ := rangeD_inv hd
      have hi : i < 3 := hi
      refine ⟨_, rfl, fun B' => ?_⟩
      refine WE.few ?_
      walk_at "g"
      refine tdraw' (by decide) (by decide) (cl_skip (cl_0 ⟨hL5, fun r6 L6 h60 h61 hL6 => ?_⟩))
      obtain ⟨v, hv, hv2⟩ := two_atI (x := 0) (y := 1) h60 h61
      walk_at "g"
      refine ⟨_, hv, ?_⟩
      walk_at "g"
      refine ask_near (xs := linB many fun _ => low) (by omega) (by omega) (.inl (congrArg D.lst book_good)) hbk (good_confs _ _) (good_near (by omega)) fun rest => ?_
      exact ⟨_, List.sublist_append_right _ _, _, _, rfl, by rw [List.length_replicate, sizeLine_eq]; omega, L6, rfl, hL6, List.replicate_succ'.symm⟩
    rintro acc M' p7 ⟨L7, rfl, hL7, rfl⟩
    refine ⟨p7, _, rfl, rfl, ?_⟩
    walk_at "g"
    refine .inr (.inr ⟨_, _, .l, .l, by show 6 ≤ sizeLine; rw [sizeLine_eq]; decide, ?_⟩)
    walk_at "g"
    refine ⟨_, _, rfl, alkL (es := [.int 1, .int 1, .int 1, .non, .non, .non]) rfl (by decide) (fun x hx => ?_), _, rfl, iteQ rfl ?_⟩
    · simp only [List.mem_cons, List.not_mem_nil, or_false] at hx
      rcases hx with rfl | rfl | rfl | rfl | rfl | rfl
      · exact .int _
      · exact .int _
      · exact .int _
      · exact .non
      · exact .non
      · exact .non
    walk_at "g"
    exact ⟨_, _, _, _, _, _, _, _, _, _, [], L7, rfl, rfl, hL7⟩
  rintro δ' M' ⟨x2, x3, x4, x5, x6, x7, x8, x9, x10, x11, rest, L0, rfl, rfl, hL0⟩
  walk_at "g"
  refine we_froz 0 (we_lcM (fun _ => .non) N (by walk_at "tg") (by walk_at "ok") (wi_range1 rfl (by assumption) ?_))
  walk_at "g"
  refine ⟨by decide, by decide, by rw [rangeD_len, sizeLine_eq]; decide, fun _ _ => trivial, ?_, ?_⟩
  · intro i d' acc p hd
    obtain ⟨hi, rfl⟩ := rangeD_inv hd
    have hi : i < 3 := hi
    refine ⟨_, rfl, fun B' => ?_⟩
    refine WE.few ?_
    walk_at "g"
    all_goals (try exact cpw30')
    refine ask_near (xs := []) (by omega) (by omega) (.inl rfl) nil_ok rfl (nil_near _) fun rest => ?_
    exact ⟨_, List.sublist_append_right _ _, rfl, rfl⟩
  intro p1
  refine ⟨p1, _, rfl, rfl, ?_⟩
  walk_at "g"
  intro p2
  walk_at "g"
  refine ⟨0, p2, [.non], 3, rfl, rfl, rfl, by decide, by decide, by show 1 * _ ≤ sizeLine; rw [sizeLine_eq]; decide, ?_⟩
  walk_at "g"
  refine ⟨_, _, rfl, alkL (es := [.non, .non, .non]) rfl (by decide) (fun x hx => ?_), ?_⟩
  · simp only [List.mem_cons, List.not_mem_nil, or_false] at hx
    rcases hx with rfl | rfl | rfl <;> exact .non
  exact q _
end
/-! OdEnd -/
theorem law_sp {K : PySem.W.Frag} {H : Hp} {a : Addr} {ns : List Int} (hl : ns.length ≤ 63) (hS : SqL K H a (ns.map V.int)) : spG K TLaw [.ref a] H (fun v _ => v = .bl true) fun _ _ _ => False :=
  ⟨H, [], [.lst (ns.map D.int)], { le := Same.refl _, nd := List.Pairwise.nil, cell := (fun _ h => nomatch h), out := (fun _ h => nomatch h), slot := (fun _ _ h => nomatch h), dlen := rfl }, .cons (.lst hS (Reps.ints ns)) .nil, ns, rfl, hl, fun M' v F' H' _ _ r => by cases r; rfl⟩
theorem refs_one (a : Addr) : PySem.HandSPX.refsVE [.ref a, .type "ValueError", .type "Exception", .type "BaseException", .type "object"] = true := by
  show PySem.HandSPX.refsVE [.type "ValueError", .type "Exception", .type "BaseException", .type "object"] = true
  decide +kernel
theorem exm_self {K : PySem.W.Frag} {S : Addr} (h1 : PySem.W.subIn K (.ref S) (.type "BaseException") = some true) (h2 : PySem.W.isClsIn K S = true) (h3 : PySem.W.typeIn K (.ref S) = some (.type "type")) (h4 : PySem.W.subIn K (.ref S) (.ref S) = some true) :
    PySem.W.exmOne K (.ref S) (.ref S) = some true := by
  have e1 : (PySem.W.subIn K (.ref S) (.type "BaseException") == some true) = true := by rw [h1] <;> rfl
  have e2 : ((PySem.W.clsIn K S).isSome && PySem.W.typeIn K (.ref S) == some (.type "type")) = true := by
    have h2' : (PySem.W.clsIn K S).isSome = true := h2
    rw [h2', h3] <;> rfl
  show (if (PySem.W.subIn K (.ref S) (.type "BaseException") == some true) = true then (if ((PySem.W.clsIn K S).isSome && PySem.W.typeIn K (.ref S) == some (.type "type")) = true then PySem.W.subIn K (.ref S) (.ref S) else none) else none) = some true
  rw [if_pos e1, if_pos e2]
  exact h4
theorem exm_other {K : PySem.W.Frag} {S R : Addr} (h1 : PySem.W.subIn K (.ref S) (.type "BaseException") = some true) (h2 : PySem.W.isClsIn K S = true) (h3 : PySem.W.typeIn K (.ref S) = some (.type "type")) (h4 : PySem.W.subIn K (.ref R) (.ref S) = some false) :
    PySem.W.exmOne K (.ref R) (.ref S) = some false := by
  have e1 : (PySem.W.subIn K (.ref S) (.type "BaseException") == some true) = true := by rw [h1] <;> rfl
  have e2 : ((PySem.W.clsIn K S).isSome && PySem.W.typeIn K (.ref S) == some (.type "type")) = true := by
    have h2' : (PySem.W.clsIn K S).isSome = true := h2
    rw [h2', h3] <;> rfl
  show (if (PySem.W.subIn K (.ref S) (.type "BaseException") == some true) = true then (if ((PySem.W.clsIn K S).isSome && PySem.W.typeIn K (.ref S) == some (.type "type")) = true then PySem.W.subIn K (.ref R) (.ref S) else none) else none) = some false
  rw [if_pos e1, if_pos e2]
  exact h4
theorem exm_gen {K : PySem.W.Frag} {S R : Addr} {b : Bool} (h1 : PySem.W.subIn K (.ref S) (.type "BaseException") = some true) (h2 : PySem.W.isClsIn K S = true) (h3 : PySem.W.typeIn K (.ref S) = some (.type "type")) (h4 : PySem.W.subIn K (.ref R) (.ref S) = some b) :
    PySem.W.exmOne K (.ref R) (.ref S) = some b := by
  have e1 : (PySem.W.subIn K (.ref S) (.type "BaseException") == some true) = true := by rw [h1] <;> rfl
  have e2 : ((PySem.W.clsIn K S).isSome && PySem.W.typeIn K (.ref S) == some (.type "type")) = true := by
    have h2' : (PySem.W.clsIn K S).isSome = true := h2
    rw [h2', h3] <;> rfl
  show (if (PySem.W.subIn K (.ref S) (.type "BaseException") == some true) = true then (if ((PySem.W.clsIn K S).isSome && PySem.W.typeIn K (.ref S) == some (.type "type")) = true then PySem.W.subIn K (.ref R) (.ref S) else none) else none) = some b
  rw [if_pos e1, if_pos e2]
  exact h4
theorem kit_sub {K : PySem.W.Frag} {C : Addr} {T : String} {v : Bool} (hm : PySem.W.kitMeta T = true) (e : PySem.W.mroIn K C (.type T) = some v) : PySem.W.kitOne K (.ref C) (.type T) = some v := by
  have e0 : (Value.ref C == Value.type T) = false := rfl
  show (if (Value.ref C == Value.type T) = true then some true else if PySem.W.kitMeta T = true then PySem.W.mroIn K C (.type T) else none) = some v
  rw [if_neg (by rw [e0]; decide), if_pos hm]
  exact e
theorem top_all {l : PySem.W.OpenLaw} {w : World} {K : PySem.W.Frag} {h : Heap} {mg : Str → Option Value} {fa f_is_integer f_is_told f_is_item f_is_book f_need_book f_divides f_do_fit f_conflicts_in f_conflict_in f_need_fitting f_need_possible f_divisors_in f_places_by f_places_for f_has_place f_nearest_place f_l_bag f_l_stirred f_l_draw f_l_alike f_l_bad_book f_l_asked f_law : Addr} (X : K.In h) (G : h.Ns mainGlobals mg) (hfa : mg "law" = some (.ref fa))
    {od_is_integer an_is_integer : Option Addr} {sl_is_integer : Array (Option Value)} {oc_is_integer kV_is_integer dc_is_integer pm_is_integer cd_is_integer ct_is_integer : Value}
    {od_is_told an_is_told : Option Addr} {sl_is_told : Array (Option Value)} {oc_is_told kV_is_told dc_is_told pm_is_told cd_is_told ct_is_told : Value}
    {od_is_item an_is_item : Option Addr} {sl_is_item : Array (Option Value)} {oc_is_item kV_is_item dc_is_item pm_is_item cd_is_item ct_is_item : Value}
    {od_is_book an_is_book : Option Addr} {sl_is_book : Array (Option Value)} {oc_is_book kV_is_book dc_is_book pm_is_book cd_is_book ct_is_book : Value}
    {od_need_book an_need_book : Option Addr} {sl_need_book : Array (Option Value)} {oc_need_book kV_need_book dc_need_book pm_need_book cd_need_book ct_need_book : Value}
    {od_divides an_divides : Option Addr} {sl_divides : Array (Option Value)} {oc_divides kV_divides dc_divides pm_divides cd_divides ct_divides : Value}
    {od_do_fit an_do_fit : Option Addr} {sl_do_fit : Array (Option Value)} {oc_do_fit kV_do_fit dc_do_fit pm_do_fit cd_do_fit ct_do_fit : Value}
    {od_conflicts_in an_conflicts_in : Option Addr} {sl_conflicts_in : Array (Option Value)} {oc_conflicts_in kV_conflicts_in dc_conflicts_in pm_conflicts_in cd_conflicts_in ct_conflicts_in : Value}
    {od_conflict_in an_conflict_in : Option Addr} {sl_conflict_in : Array (Option Value)} {oc_conflict_in kV_conflict_in dc_conflict_in pm_conflict_in cd_conflict_in ct_conflict_in : Value}
    {od_need_fitting an_need_fitting : Option Addr} {sl_need_fitting : Array (Option Value)} {oc_need_fitting kV_need_fitting dc_need_fitting pm_need_fitting cd_need_fitting ct_need_fitting : Value}
    {od_need_possible an_need_possible : Option Addr} {sl_need_possible : Array (Option Value)} {oc_need_possible kV_need_possible dc_need_possible pm_need_possible cd_need_possible ct_need_possible : Value}
    {od_divisors_in an_divisors_in : Option Addr} {sl_divisors_in : Array (Option Value)} {oc_divisors_in kV_divisors_in dc_divisors_in pm_divisors_in cd_divisors_in ct_divisors_in : Value}
    {od_places_by an_places_by : Option Addr} {sl_places_by : Array (Option Value)} {oc_places_by kV_places_by dc_places_by pm_places_by cd_places_by ct_places_by : Value}
    {od_places_for an_places_for : Option Addr} {sl_places_for : Array (Option Value)} {oc_places_for kV_places_for dc_places_for pm_places_for cd_places_for ct_places_for : Value}
    {od_has_place an_has_place : Option Addr} {sl_has_place : Array (Option Value)} {oc_has_place kV_has_place dc_has_place pm_has_place cd_has_place ct_has_place : Value}
    {od_nearest_place an_nearest_place : Option Addr} {sl_nearest_place : Array (Option Value)} {oc_nearest_place kV_nearest_place dc_nearest_place pm_nearest_place cd_nearest_place ct_nearest_place : Value}
    {od_l_bag an_l_bag : Option Addr} {sl_l_bag : Array (Option Value)} {oc_l_bag kV_l_bag dc_l_bag pm_l_bag cd_l_bag ct_l_bag : Value}
    {od_l_stirred an_l_stirred : Option Addr} {sl_l_stirred : Array (Option Value)} {oc_l_stirred kV_l_stirred dc_l_stirred pm_l_stirred cd_l_stirred ct_l_stirred : Value}
    {od_l_draw an_l_draw : Option Addr} {sl_l_draw : Array (Option Value)} {oc_l_draw kV_l_draw dc_l_draw pm_l_draw cd_l_draw ct_l_draw : Value}
    {od_l_alike an_l_alike : Option Addr} {sl_l_alike : Array (Option Value)} {oc_l_alike kV_l_alike dc_l_alike pm_l_alike cd_l_alike ct_l_alike : Value}
    {od_l_bad_book an_l_bad_book : Option Addr} {sl_l_bad_book : Array (Option Value)} {oc_l_bad_book kV_l_bad_book dc_l_bad_book pm_l_bad_book cd_l_bad_book ct_l_bad_book : Value}
    {od_l_asked an_l_asked : Option Addr} {sl_l_asked : Array (Option Value)} {oc_l_asked kV_l_asked dc_l_asked pm_l_asked cd_l_asked ct_l_asked : Value}
    {od_law an_law : Option Addr} {sl_law : Array (Option Value)} {oc_law kV_law dc_law pm_law cd_law ct_law : Value}
    {fB : Addr} (aB : PySem.W.nsIn K mainGlobals "RestError" = some (some (.ref fB))) (sB : PySem.W.specialIn K (.ref fB) "__getattribute__" = some (some (.builtin "type.__getattribute__"))) (rB : PySem.W.readsIn K fB (.type "type") = true) (vB : PySem.W.findCls K (.ref fB) (.type "type") "__init__" = some (.val (.builtin "ValueError.__init__")))
    {C_Unfit fI_Unfit : Addr} {nm_Unfit qn_Unfit : Str} {N_Unfit : Addr} {bs_Unfit sub_Unfit : List Value} {sn_Unfit : List Str} {ab_Unfit : Bool} {col_Unfit : Option Bool} {dd_Unfit : Option Addr} {m0_Unfit m1_Unfit m2_Unfit m3_Unfit m5_Unfit : Option Value} {odI_Unfit anI_Unfit : Option Addr} {slI_Unfit : Array (Option Value)} {ocI_Unfit kVI_Unfit dcI_Unfit pmI_Unfit cdI_Unfit ctI_Unfit : Value}
    (aC_Unfit : PySem.W.nsIn K mainGlobals "Unfit" = some (some (.ref C_Unfit))) (xL_Unfit : K.lookup C_Unfit = some (excClassObj nm_Unfit qn_Unfit C_Unfit N_Unfit bs_Unfit [.ref fB, .type "ValueError", .type "Exception", .type "BaseException", .type "object"] true sn_Unfit sub_Unfit ab_Unfit col_Unfit dd_Unfit m0_Unfit m1_Unfit m2_Unfit m3_Unfit m5_Unfit "ValueError.__new__"))
    (sa_Unfit : PySem.W.findIn K (.ref C_Unfit) "__setattr__" = some (some (.builtin "object.__setattr__"))) (ga_Unfit : PySem.W.findIn K (.ref C_Unfit) "__getattribute__" = some (some (.builtin "BaseException.__getattribute__"))) (gg_Unfit : PySem.W.findIn K (.ref C_Unfit) "__getattr__" = some none)
    (nf0_Unfit : PySem.W.findIn K (.ref C_Unfit) "first" = some none)
    (nf1_Unfit : PySem.W.findIn K (.ref C_Unfit) "second" = some none)
    (iC_Unfit : PySem.W.findIn K (.ref C_Unfit) "__init__" = some (some (.ref fI_Unfit))) (tI_Unfit : PySem.W.typeIn K (.ref fI_Unfit) = some (.type "function"))
    (lI_Unfit : K.lookup fI_Unfit = some ⟨ocI_Unfit, odI_Unfit, .func (PySem.W.fnOf "__init__" "Unfit.__init__" (defArgs st_Unfit___init__) (defBody st_Unfit___init__) (defScope st_Unfit___init__) .none kVI_Unfit dcI_Unfit pmI_Unfit anI_Unfit cdI_Unfit ctI_Unfit), slI_Unfit⟩) (cI_Unfit : PySem.W.codeIn K cdI_Unfit "Unfit.__init__" = true) (kI_Unfit : PySem.W.keepIn K (.ref fI_Unfit) = true)
    (kC_Unfit : PySem.W.keepIn K (.ref C_Unfit) = true) (eC_Unfit : PySem.W.subIn K (.ref C_Unfit) (.type "BaseException") = some true) (tC_Unfit : PySem.W.typeIn K (.ref C_Unfit) = some (.type "type")) (hC_Unfit : PySem.W.hasDictIn K C_Unfit = true) (isC_Unfit : PySem.W.isClsIn K C_Unfit = true) (sC_Unfit : PySem.W.subIn K (.ref C_Unfit) (.ref C_Unfit) = some true)
    {C_InvalidBook : Addr} (aC_InvalidBook : PySem.W.nsIn K mainGlobals "InvalidBook" = some (some (.ref C_InvalidBook))) (qC_InvalidBook : PySem.W.excIn K C_InvalidBook [.type "ValueError", .type "Exception", .type "BaseException", .type "object"] "ValueError.__new__" = true) (kC_InvalidBook : PySem.W.keepIn K (.ref C_InvalidBook) = true) (eC_InvalidBook : PySem.W.subIn K (.ref C_InvalidBook) (.type "BaseException") = some true) (tC_InvalidBook : PySem.W.typeIn K (.ref C_InvalidBook) = some (.type "type")) (isC_InvalidBook : PySem.W.isClsIn K C_InvalidBook = true) (sC_InvalidBook : PySem.W.subIn K (.ref C_InvalidBook) (.ref C_InvalidBook) = some true)
    {C_TooLarge : Addr} (aC_TooLarge : PySem.W.nsIn K mainGlobals "TooLarge" = some (some (.ref C_TooLarge))) (qC_TooLarge : PySem.W.excIn K C_TooLarge [.type "ValueError", .type "Exception", .type "BaseException", .type "object"] "ValueError.__new__" = true) (kC_TooLarge : PySem.W.keepIn K (.ref C_TooLarge) = true) (eC_TooLarge : PySem.W.subIn K (.ref C_TooLarge) (.type "BaseException") = some true) (tC_TooLarge : PySem.W.typeIn K (.ref C_TooLarge) = some (.type "type")) (isC_TooLarge : PySem.W.isClsIn K C_TooLarge = true) (sC_TooLarge : PySem.W.subIn K (.ref C_TooLarge) (.ref C_TooLarge) = some true)
    (nC_InvalidBook_Unfit : PySem.W.subIn K (.ref C_InvalidBook) (.ref C_Unfit) = some false)
    (nC_TooLarge_Unfit : PySem.W.subIn K (.ref C_TooLarge) (.ref C_Unfit) = some false)
    (a_is_integer : PySem.W.nsIn K mainGlobals "is_integer" = some (some (.ref f_is_integer))) (l_is_integer : K.lookup f_is_integer = some ⟨oc_is_integer, od_is_integer, .func (PySem.W.fnOf "is_integer" "is_integer" (defArgs st_is_integer) (defBody st_is_integer) (defScope st_is_integer) .none kV_is_integer dc_is_integer pm_is_integer an_is_integer cd_is_integer ct_is_integer), sl_is_integer⟩) (c_is_integer : PySem.W.codeIn K cd_is_integer "is_integer" = true) (k_is_integer : PySem.W.keepIn K (.ref f_is_integer) = true)
    (a_is_told : PySem.W.nsIn K mainGlobals "is_told" = some (some (.ref f_is_told))) (l_is_told : K.lookup f_is_told = some ⟨oc_is_told, od_is_told, .func (PySem.W.fnOf "is_told" "is_told" (defArgs st_is_told) (defBody st_is_told) (defScope st_is_told) .none kV_is_told dc_is_told pm_is_told an_is_told cd_is_told ct_is_told), sl_is_told⟩) (c_is_told : PySem.W.codeIn K cd_is_told "is_told" = true) (k_is_told : PySem.W.keepIn K (.ref f_is_told) = true)
    (a_is_item : PySem.W.nsIn K mainGlobals "is_item" = some (some (.ref f_is_item))) (l_is_item : K.lookup f_is_item = some ⟨oc_is_item, od_is_item, .func (PySem.W.fnOf "is_item" "is_item" (defArgs st_is_item) (defBody st_is_item) (defScope st_is_item) .none kV_is_item dc_is_item pm_is_item an_is_item cd_is_item ct_is_item), sl_is_item⟩) (c_is_item : PySem.W.codeIn K cd_is_item "is_item" = true) (k_is_item : PySem.W.keepIn K (.ref f_is_item) = true)
    (a_is_book : PySem.W.nsIn K mainGlobals "is_book" = some (some (.ref f_is_book))) (l_is_book : K.lookup f_is_book = some ⟨oc_is_book, od_is_book, .func (PySem.W.fnOf "is_book" "is_book" (defArgs st_is_book) (defBody st_is_book) (defScope st_is_book) .none kV_is_book dc_is_book pm_is_book an_is_book cd_is_book ct_is_book), sl_is_book⟩) (c_is_book : PySem.W.codeIn K cd_is_book "is_book" = true) (k_is_book : PySem.W.keepIn K (.ref f_is_book) = true)
    (a_need_book : PySem.W.nsIn K mainGlobals "need_book" = some (some (.ref f_need_book))) (l_need_book : K.lookup f_need_book = some ⟨oc_need_book, od_need_book, .func (PySem.W.fnOf "need_book" "need_book" (defArgs st_need_book) (defBody st_need_book) (defScope st_need_book) .none kV_need_book dc_need_book pm_need_book an_need_book cd_need_book ct_need_book), sl_need_book⟩) (c_need_book : PySem.W.codeIn K cd_need_book "need_book" = true) (k_need_book : PySem.W.keepIn K (.ref f_need_book) = true)
    (a_divides : PySem.W.nsIn K mainGlobals "divides" = some (some (.ref f_divides))) (l_divides : K.lookup f_divides = some ⟨oc_divides, od_divides, .func (PySem.W.fnOf "divides" "divides" (defArgs st_divides) (defBody st_divides) (defScope st_divides) .none kV_divides dc_divides pm_divides an_divides cd_divides ct_divides), sl_divides⟩) (c_divides : PySem.W.codeIn K cd_divides "divides" = true) (k_divides : PySem.W.keepIn K (.ref f_divides) = true)
    (a_do_fit : PySem.W.nsIn K mainGlobals "do_fit" = some (some (.ref f_do_fit))) (l_do_fit : K.lookup f_do_fit = some ⟨oc_do_fit, od_do_fit, .func (PySem.W.fnOf "do_fit" "do_fit" (defArgs st_do_fit) (defBody st_do_fit) (defScope st_do_fit) .none kV_do_fit dc_do_fit pm_do_fit an_do_fit cd_do_fit ct_do_fit), sl_do_fit⟩) (c_do_fit : PySem.W.codeIn K cd_do_fit "do_fit" = true) (k_do_fit : PySem.W.keepIn K (.ref f_do_fit) = true)
    (a_conflicts_in : PySem.W.nsIn K mainGlobals "conflicts_in" = some (some (.ref f_conflicts_in))) (l_conflicts_in : K.lookup f_conflicts_in = some ⟨oc_conflicts_in, od_conflicts_in, .func (PySem.W.fnOf "conflicts_in" "conflicts_in" (defArgs st_conflicts_in) (defBody st_conflicts_in) (defScope st_conflicts_in) .none kV_conflicts_in dc_conflicts_in pm_conflicts_in an_conflicts_in cd_conflicts_in ct_conflicts_in), sl_conflicts_in⟩) (c_conflicts_in : PySem.W.codeIn K cd_conflicts_in "conflicts_in" = true) (k_conflicts_in : PySem.W.keepIn K (.ref f_conflicts_in) = true)
    (a_conflict_in : PySem.W.nsIn K mainGlobals "conflict_in" = some (some (.ref f_conflict_in))) (l_conflict_in : K.lookup f_conflict_in = some ⟨oc_conflict_in, od_conflict_in, .func (PySem.W.fnOf "conflict_in" "conflict_in" (defArgs st_conflict_in) (defBody st_conflict_in) (defScope st_conflict_in) .none kV_conflict_in dc_conflict_in pm_conflict_in an_conflict_in cd_conflict_in ct_conflict_in), sl_conflict_in⟩) (c_conflict_in : PySem.W.codeIn K cd_conflict_in "conflict_in" = true) (k_conflict_in : PySem.W.keepIn K (.ref f_conflict_in) = true)
    (a_need_fitting : PySem.W.nsIn K mainGlobals "need_fitting" = some (some (.ref f_need_fitting))) (l_need_fitting : K.lookup f_need_fitting = some ⟨oc_need_fitting, od_need_fitting, .func (PySem.W.fnOf "need_fitting" "need_fitting" (defArgs st_need_fitting) (defBody st_need_fitting) (defScope st_need_fitting) .none kV_need_fitting dc_need_fitting pm_need_fitting an_need_fitting cd_need_fitting ct_need_fitting), sl_need_fitting⟩) (c_need_fitting : PySem.W.codeIn K cd_need_fitting "need_fitting" = true) (k_need_fitting : PySem.W.keepIn K (.ref f_need_fitting) = true)
    (a_need_possible : PySem.W.nsIn K mainGlobals "need_possible" = some (some (.ref f_need_possible))) (l_need_possible : K.lookup f_need_possible = some ⟨oc_need_possible, od_need_possible, .func (PySem.W.fnOf "need_possible" "need_possible" (defArgs st_need_possible) (defBody st_need_possible) (defScope st_need_possible) .none kV_need_possible dc_need_possible pm_need_possible an_need_possible cd_need_possible ct_need_possible), sl_need_possible⟩) (c_need_possible : PySem.W.codeIn K cd_need_possible "need_possible" = true) (k_need_possible : PySem.W.keepIn K (.ref f_need_possible) = true)
    (a_divisors_in : PySem.W.nsIn K mainGlobals "divisors_in" = some (some (.ref f_divisors_in))) (l_divisors_in : K.lookup f_divisors_in = some ⟨oc_divisors_in, od_divisors_in, .func (PySem.W.fnOf "divisors_in" "divisors_in" (defArgs st_divisors_in) (defBody st_divisors_in) (defScope st_divisors_in) .none kV_divisors_in dc_divisors_in pm_divisors_in an_divisors_in cd_divisors_in ct_divisors_in), sl_divisors_in⟩) (c_divisors_in : PySem.W.codeIn K cd_divisors_in "divisors_in" = true) (k_divisors_in : PySem.W.keepIn K (.ref f_divisors_in) = true)
    (a_places_by : PySem.W.nsIn K mainGlobals "places_by" = some (some (.ref f_places_by))) (l_places_by : K.lookup f_places_by = some ⟨oc_places_by, od_places_by, .func (PySem.W.fnOf "places_by" "places_by" (defArgs st_places_by) (defBody st_places_by) (defScope st_places_by) .none kV_places_by dc_places_by pm_places_by an_places_by cd_places_by ct_places_by), sl_places_by⟩) (c_places_by : PySem.W.codeIn K cd_places_by "places_by" = true) (k_places_by : PySem.W.keepIn K (.ref f_places_by) = true)
    (a_places_for : PySem.W.nsIn K mainGlobals "places_for" = some (some (.ref f_places_for))) (l_places_for : K.lookup f_places_for = some ⟨oc_places_for, od_places_for, .func (PySem.W.fnOf "places_for" "places_for" (defArgs st_places_for) (defBody st_places_for) (defScope st_places_for) .none kV_places_for dc_places_for pm_places_for an_places_for cd_places_for ct_places_for), sl_places_for⟩) (c_places_for : PySem.W.codeIn K cd_places_for "places_for" = true) (k_places_for : PySem.W.keepIn K (.ref f_places_for) = true)
    (a_has_place : PySem.W.nsIn K mainGlobals "has_place" = some (some (.ref f_has_place))) (l_has_place : K.lookup f_has_place = some ⟨oc_has_place, od_has_place, .func (PySem.W.fnOf "has_place" "has_place" (defArgs st_has_place) (defBody st_has_place) (defScope st_has_place) .none kV_has_place dc_has_place pm_has_place an_has_place cd_has_place ct_has_place), sl_has_place⟩) (c_has_place : PySem.W.codeIn K cd_has_place "has_place" = true) (k_has_place : PySem.W.keepIn K (.ref f_has_place) = true)
    (a_nearest_place : PySem.W.nsIn K mainGlobals "nearest_place" = some (some (.ref f_nearest_place))) (l_nearest_place : K.lookup f_nearest_place = some ⟨oc_nearest_place, od_nearest_place, .func (PySem.W.fnOf "nearest_place" "nearest_place" (defArgs st_nearest_place) (defBody st_nearest_place) (defScope st_nearest_place) .none kV_nearest_place dc_nearest_place pm_nearest_place an_nearest_place cd_nearest_place ct_nearest_place), sl_nearest_place⟩) (c_nearest_place : PySem.W.codeIn K cd_nearest_place "nearest_place" = true) (k_nearest_place : PySem.W.keepIn K (.ref f_nearest_place) = true)
    (a_l_bag : PySem.W.nsIn K mainGlobals "_law_bag" = some (some (.ref f_l_bag))) (l_l_bag : K.lookup f_l_bag = some ⟨oc_l_bag, od_l_bag, .func (PySem.W.fnOf "_law_bag" "_law_bag" (defArgs st_l_bag) (defBody st_l_bag) (defScope st_l_bag) .none kV_l_bag dc_l_bag pm_l_bag an_l_bag cd_l_bag ct_l_bag), sl_l_bag⟩) (c_l_bag : PySem.W.codeIn K cd_l_bag "_law_bag" = true) (k_l_bag : PySem.W.keepIn K (.ref f_l_bag) = true)
    (a_l_stirred : PySem.W.nsIn K mainGlobals "_law_stirred" = some (some (.ref f_l_stirred))) (l_l_stirred : K.lookup f_l_stirred = some ⟨oc_l_stirred, od_l_stirred, .func (PySem.W.fnOf "_law_stirred" "_law_stirred" (defArgs st_l_stirred) (defBody st_l_stirred) (defScope st_l_stirred) .none kV_l_stirred dc_l_stirred pm_l_stirred an_l_stirred cd_l_stirred ct_l_stirred), sl_l_stirred⟩) (c_l_stirred : PySem.W.codeIn K cd_l_stirred "_law_stirred" = true) (k_l_stirred : PySem.W.keepIn K (.ref f_l_stirred) = true)
    (a_l_draw : PySem.W.nsIn K mainGlobals "_law_draw" = some (some (.ref f_l_draw))) (l_l_draw : K.lookup f_l_draw = some ⟨oc_l_draw, od_l_draw, .func (PySem.W.fnOf "_law_draw" "_law_draw" (defArgs st_l_draw) (defBody st_l_draw) (defScope st_l_draw) .none kV_l_draw dc_l_draw pm_l_draw an_l_draw cd_l_draw ct_l_draw), sl_l_draw⟩) (c_l_draw : PySem.W.codeIn K cd_l_draw "_law_draw" = true) (k_l_draw : PySem.W.keepIn K (.ref f_l_draw) = true)
    (a_l_alike : PySem.W.nsIn K mainGlobals "_law_alike" = some (some (.ref f_l_alike))) (l_l_alike : K.lookup f_l_alike = some ⟨oc_l_alike, od_l_alike, .func (PySem.W.fnOf "_law_alike" "_law_alike" (defArgs st_l_alike) (defBody st_l_alike) (defScope st_l_alike) .none kV_l_alike dc_l_alike pm_l_alike an_l_alike cd_l_alike ct_l_alike), sl_l_alike⟩) (c_l_alike : PySem.W.codeIn K cd_l_alike "_law_alike" = true) (k_l_alike : PySem.W.keepIn K (.ref f_l_alike) = true)
    (a_l_bad_book : PySem.W.nsIn K mainGlobals "_law_bad_book" = some (some (.ref f_l_bad_book))) (l_l_bad_book : K.lookup f_l_bad_book = some ⟨oc_l_bad_book, od_l_bad_book, .func (PySem.W.fnOf "_law_bad_book" "_law_bad_book" (defArgs st_l_bad_book) (defBody st_l_bad_book) (defScope st_l_bad_book) .none kV_l_bad_book dc_l_bad_book pm_l_bad_book an_l_bad_book cd_l_bad_book ct_l_bad_book), sl_l_bad_book⟩) (c_l_bad_book : PySem.W.codeIn K cd_l_bad_book "_law_bad_book" = true) (k_l_bad_book : PySem.W.keepIn K (.ref f_l_bad_book) = true)
    (a_l_asked : PySem.W.nsIn K mainGlobals "_law_asked" = some (some (.ref f_l_asked))) (l_l_asked : K.lookup f_l_asked = some ⟨oc_l_asked, od_l_asked, .func (PySem.W.fnOf "_law_asked" "_law_asked" (defArgs st_l_asked) (defBody st_l_asked) (defScope st_l_asked) .none kV_l_asked dc_l_asked pm_l_asked an_l_asked cd_l_asked ct_l_asked), sl_l_asked⟩) (c_l_asked : PySem.W.codeIn K cd_l_asked "_law_asked" = true) (k_l_asked : PySem.W.keepIn K (.ref f_l_asked) = true)
    (a_law : PySem.W.nsIn K mainGlobals "law" = some (some (.ref f_law))) (l_law : K.lookup f_law = some ⟨oc_law, od_law, .func (PySem.W.fnOf "law" "law" (defArgs st_law) (defBody st_law) (defScope st_law) .none kV_law dc_law pm_law an_law cd_law ct_law), sl_law⟩) (c_law : PySem.W.codeIn K cd_law "law" = true) (k_law : PySem.W.keepIn K (.ref f_law) = true)
    {C_Notebook : Addr} (aC_Notebook : PySem.W.nsIn K mainGlobals "Notebook" = some (some (.ref C_Notebook))) (opg_Notebook : PySem.W.plainGet K C_Notebook Str.empty = true) (ohd_Notebook : PySem.W.hasDictIn K C_Notebook = true) (opo_Notebook : PySem.W.plainOver K C_Notebook = true) (osa_Notebook : PySem.W.findIn K (.ref C_Notebook) "__setattr__" = some (some (.builtin "object.__setattr__"))) (omk_Notebook : PySem.W.makesIn K C_Notebook = true) (okc_Notebook : PySem.W.keepIn K (.ref C_Notebook) = true)
    (oia_Notebook : PySem.W.findIn K (.ref C_Notebook) "__class__" = some (some (.builtin "object.__class__"))) (oim_Notebook : PySem.W.mroIn K C_Notebook (.type "object") = some true) (oil_Notebook : PySem.W.mroIn K C_Notebook (.type "list") = some false)
    (on0_Notebook : PySem.W.findIn K (.ref C_Notebook) "notebook_states" = some none)
    {f_Notebook___init__ : Addr} {od_Notebook___init__ an_Notebook___init__ : Option Addr} {sl_Notebook___init__ : Array (Option Value)} {oc_Notebook___init__ kV_Notebook___init__ dc_Notebook___init__ pm_Notebook___init__ cd_Notebook___init__ ct_Notebook___init__ : Value}
    (at_Notebook___init__ : PySem.W.findIn K (.ref C_Notebook) "__init__" = some (some (.ref f_Notebook___init__))) (fn_Notebook___init__ : PySem.W.isFn K (.ref f_Notebook___init__) = true)
    (l_Notebook___init__ : K.lookup f_Notebook___init__ = some ⟨oc_Notebook___init__, od_Notebook___init__, .func (PySem.W.fnOf "__init__" "Notebook.__init__" (defArgs st_Notebook___init__) (defBody st_Notebook___init__) (defScope st_Notebook___init__) .none kV_Notebook___init__ dc_Notebook___init__ pm_Notebook___init__ an_Notebook___init__ cd_Notebook___init__ ct_Notebook___init__), sl_Notebook___init__⟩) (c_Notebook___init__ : PySem.W.codeIn K cd_Notebook___init__ "Notebook.__init__" = true) (k_Notebook___init__ : PySem.W.keepIn K (.ref f_Notebook___init__) = true)
    (eB : PySem.W.subIn K (.ref fB) (.type "BaseException") = some true) (isB : PySem.W.isClsIn K fB = true) (tB : PySem.W.typeIn K (.ref fB) = some (.type "type")) (kn : PySem.W.specialIn K (.builtin "object.__class__") "__get__" = some (some (.builtin "getset_descriptor.__get__"))) (kq : PySem.W.takesIn K (.builtin "object.__class__") = some true)
    (xg_InvalidBook : PySem.W.findIn K (.ref C_InvalidBook) "__getattribute__" = some (some (.builtin "BaseException.__getattribute__"))) (xk_InvalidBook : PySem.W.findIn K (.ref C_InvalidBook) "__getattr__" = some none) (xd_InvalidBook : PySem.W.hasDictIn K C_InvalidBook = true) (xa_InvalidBook : PySem.W.findIn K (.ref C_InvalidBook) "__class__" = some (some (.builtin "object.__class__"))) (xm_InvalidBook : PySem.W.mroIn K C_InvalidBook (.type "object") = some true) (xb_InvalidBook : PySem.W.subIn K (.ref C_InvalidBook) (.ref fB) = some true)
    (kt_InvalidBook_InvalidBook : PySem.W.kitOne K (.ref C_InvalidBook) (.ref C_InvalidBook) = some true)
    (kt_InvalidBook_TooLarge : PySem.W.kitOne K (.ref C_InvalidBook) (.ref C_TooLarge) = some false)
    (xg_TooLarge : PySem.W.findIn K (.ref C_TooLarge) "__getattribute__" = some (some (.builtin "BaseException.__getattribute__"))) (xk_TooLarge : PySem.W.findIn K (.ref C_TooLarge) "__getattr__" = some none) (xd_TooLarge : PySem.W.hasDictIn K C_TooLarge = true) (xa_TooLarge : PySem.W.findIn K (.ref C_TooLarge) "__class__" = some (some (.builtin "object.__class__"))) (xm_TooLarge : PySem.W.mroIn K C_TooLarge (.type "object") = some true) (xb_TooLarge : PySem.W.subIn K (.ref C_TooLarge) (.ref fB) = some true)
    (kt_TooLarge_InvalidBook : PySem.W.kitOne K (.ref C_TooLarge) (.ref C_InvalidBook) = some false)
    (kt_TooLarge_TooLarge : PySem.W.kitOne K (.ref C_TooLarge) (.ref C_TooLarge) = some true)
    (z_range : PySem.W.nsIn K mainGlobals "range" = some none)
    (z_int : PySem.W.nsIn K mainGlobals "int" = some none)
    (z_abs : PySem.W.nsIn K mainGlobals "abs" = some none)
    (z_len : PySem.W.nsIn K mainGlobals "len" = some none)
    (z_isinstance : PySem.W.nsIn K mainGlobals "isinstance" = some none)
    (z_all : PySem.W.nsIn K mainGlobals "all" = some none)
    (z_bool : PySem.W.nsIn K mainGlobals "bool" = some none)
    (z_str : PySem.W.nsIn K mainGlobals "str" = some none)
    (z_list : PySem.W.nsIn K mainGlobals "list" = some none)
    (z_tuple : PySem.W.nsIn K mainGlobals "tuple" = some none)
    (z_zip : PySem.W.nsIn K mainGlobals "zip" = some none)
    (z_enumerate : PySem.W.nsIn K mainGlobals "enumerate" = some none)
    (z_sorted : PySem.W.nsIn K mainGlobals "sorted" = some none)
    (z_set : PySem.W.nsIn K mainGlobals "set" = some none)
    {t_MOST_ITEMS : Tok} (n_MOST_ITEMS : PySem.W.nsIn K mainGlobals "MOST_ITEMS" = some (some (.int (24) t_MOST_ITEMS)))
    {t_MOST : Tok} (n_MOST : PySem.W.nsIn K mainGlobals "MOST" = some (some (.int (1000000000000000000000000000000) t_MOST)))
    {t_MOST_DIFFERENCE : Tok} (n_MOST_DIFFERENCE : PySem.W.nsIn K mainGlobals "MOST_DIFFERENCE" = some (some (.int (1000000000) t_MOST_DIFFERENCE)))
    : ∃ fd : FuncData, (∀ (s : Shared) (v : Value), BindsTo s fd ⟨[v], []⟩ [("_law_script", v)]) ∧ ∀ base : Heap, K.In base → base.Ns mainGlobals mg → FnOk l.prog w K mg base (L2.CX l.prog w) 9 fa fd ["_law_script"] (spG K TLaw) := by
  have e := hfa.symm.trans (PySem.W.mg_of X G a_law)
  cases e
  have F_is_integer := fun_mk (st := st_is_integer) l_is_integer c_is_integer k_is_integer
  have m_is_integer := PySem.W.mg_of X G a_is_integer
  have b_is_integer := F_is_integer.binds (ps := ["thing"]) fun _ _ _ _ _ _ us hl => match us, hl with | [_], _ => rfl
  have F_is_told := fun_mk (st := st_is_told) l_is_told c_is_told k_is_told
  have m_is_told := PySem.W.mg_of X G a_is_told
  have b_is_told := F_is_told.binds (ps := ["thing"]) fun _ _ _ _ _ _ us hl => match us, hl with | [_], _ => rfl
  have F_is_item := fun_mk (st := st_is_item) l_is_item c_is_item k_is_item
  have m_is_item := PySem.W.mg_of X G a_is_item
  have b_is_item := F_is_item.binds (ps := ["thing"]) fun _ _ _ _ _ _ us hl => match us, hl with | [_], _ => rfl
  have F_is_book := fun_mk (st := st_is_book) l_is_book c_is_book k_is_book
  have m_is_book := PySem.W.mg_of X G a_is_book
  have b_is_book := F_is_book.binds (ps := ["thing"]) fun _ _ _ _ _ _ us hl => match us, hl with | [_], _ => rfl
  have F_need_book := fun_mk (st := st_need_book) l_need_book c_need_book k_need_book
  have m_need_book := PySem.W.mg_of X G a_need_book
  have b_need_book := F_need_book.binds (ps := ["book"]) fun _ _ _ _ _ _ us hl => match us, hl with | [_], _ => rfl
  have F_divides := fun_mk (st := st_divides) l_divides c_divides k_divides
  have m_divides := PySem.W.mg_of X G a_divides
  have b_divides := F_divides.binds (ps := ["number", "other"]) fun _ _ _ _ _ _ us hl => match us, hl with | [_, _], _ => rfl
  have F_do_fit := fun_mk (st := st_do_fit) l_do_fit c_do_fit k_do_fit
  have m_do_fit := PySem.W.mg_of X G a_do_fit
  have b_do_fit := F_do_fit.binds (ps := ["one", "other"]) fun _ _ _ _ _ _ us hl => match us, hl with | [_, _], _ => rfl
  have F_conflicts_in := fun_mk (st := st_conflicts_in) l_conflicts_in c_conflicts_in k_conflicts_in
  have m_conflicts_in := PySem.W.mg_of X G a_conflicts_in
  have b_conflicts_in := F_conflicts_in.binds (ps := ["book"]) fun _ _ _ _ _ _ us hl => match us, hl with | [_], _ => rfl
  have F_conflict_in := fun_mk (st := st_conflict_in) l_conflict_in c_conflict_in k_conflict_in
  have m_conflict_in := PySem.W.mg_of X G a_conflict_in
  have b_conflict_in := F_conflict_in.binds (ps := ["book"]) fun _ _ _ _ _ _ us hl => match us, hl with | [_], _ => rfl
  have F_need_fitting := fun_mk (st := st_need_fitting) l_need_fitting c_need_fitting k_need_fitting
  have m_need_fitting := PySem.W.mg_of X G a_need_fitting
  have b_need_fitting := F_need_fitting.binds (ps := ["book"]) fun _ _ _ _ _ _ us hl => match us, hl with | [_], _ => rfl
  have F_need_possible := fun_mk (st := st_need_possible) l_need_possible c_need_possible k_need_possible
  have m_need_possible := PySem.W.mg_of X G a_need_possible
  have b_need_possible := F_need_possible.binds (ps := ["book"]) fun _ _ _ _ _ _ us hl => match us, hl with | [_], _ => rfl
  have F_divisors_in := fun_mk (st := st_divisors_in) l_divisors_in c_divisors_in k_divisors_in
  have m_divisors_in := PySem.W.mg_of X G a_divisors_in
  have b_divisors_in := F_divisors_in.binds (ps := ["number"]) fun _ _ _ _ _ _ us hl => match us, hl with | [_], _ => rfl
  have F_places_by := fun_mk (st := st_places_by) l_places_by c_places_by k_places_by
  have m_places_by := PySem.W.mg_of X G a_places_by
  have b_places_by := F_places_by.binds (ps := ["items", "value"]) fun _ _ _ _ _ _ us hl => match us, hl with | [_, _], _ => rfl
  have F_places_for := fun_mk (st := st_places_for) l_places_for c_places_for k_places_for
  have m_places_for := PySem.W.mg_of X G a_places_for
  have b_places_for := F_places_for.binds (ps := ["book", "value"]) fun _ _ _ _ _ _ us hl => match us, hl with | [_, _], _ => rfl
  have F_has_place := fun_mk (st := st_has_place) l_has_place c_has_place k_has_place
  have m_has_place := PySem.W.mg_of X G a_has_place
  have b_has_place := F_has_place.binds (ps := ["book", "value"]) fun _ _ _ _ _ _ us hl => match us, hl with | [_, _], _ => rfl
  have F_nearest_place := fun_mk (st := st_nearest_place) l_nearest_place c_nearest_place k_nearest_place
  have m_nearest_place := PySem.W.mg_of X G a_nearest_place
  have b_nearest_place := F_nearest_place.binds (ps := ["book", "value", "place"]) fun _ _ _ _ _ _ us hl => match us, hl with | [_, _, _], _ => rfl
  have F_l_bag := fun_mk (st := st_l_bag) l_l_bag c_l_bag k_l_bag
  have m_l_bag := PySem.W.mg_of X G a_l_bag
  have b_l_bag := F_l_bag.binds (ps := ["_law_script"]) fun _ _ _ _ _ _ us hl => match us, hl with | [_], _ => rfl
  have F_l_stirred := fun_mk (st := st_l_stirred) l_l_stirred c_l_stirred k_l_stirred
  have m_l_stirred := PySem.W.mg_of X G a_l_stirred
  have b_l_stirred := F_l_stirred.binds (ps := ["_law_bag_here", "_law_wide"]) fun _ _ _ _ _ _ us hl => match us, hl with | [_, _], _ => rfl
  have F_l_draw := fun_mk (st := st_l_draw) l_l_draw c_l_draw k_l_draw
  have m_l_draw := PySem.W.mg_of X G a_l_draw
  have b_l_draw := F_l_draw.binds (ps := ["_law_bag_here", "_law_wide"]) fun _ _ _ _ _ _ us hl => match us, hl with | [_, _], _ => rfl
  have F_l_alike := fun_mk (st := st_l_alike) l_l_alike c_l_alike k_l_alike
  have m_l_alike := PySem.W.mg_of X G a_l_alike
  have b_l_alike := F_l_alike.binds (ps := ["_law_found", "_law_due"]) fun _ _ _ _ _ _ us hl => match us, hl with | [_, _], _ => rfl
  have F_l_bad_book := fun_mk (st := st_l_bad_book) l_l_bad_book c_l_bad_book k_l_bad_book
  have m_l_bad_book := PySem.W.mg_of X G a_l_bad_book
  have b_l_bad_book := F_l_bad_book.binds (ps := ["_law_bag_here"]) fun _ _ _ _ _ _ us hl => match us, hl with | [_], _ => rfl
  have F_l_asked := fun_mk (st := st_l_asked) l_l_asked c_l_asked k_l_asked
  have m_l_asked := PySem.W.mg_of X G a_l_asked
  have b_l_asked := F_l_asked.binds (ps := ["_law_way", "_law_thing_here", "_law_value_here"]) fun _ _ _ _ _ _ us hl => match us, hl with | [_, _, _], _ => rfl
  have F_law := fun_mk (st := st_law) l_law c_law k_law
  have m_law := PySem.W.mg_of X G a_law
  have b_law := F_law.binds (ps := ["_law_script"]) fun _ _ _ _ _ _ us hl => match us, hl with | [_], _ => rfl
  have bI : BasI K mg "RestError" fB (.type "type") := ⟨PySem.W.mg_of X G aB, sB, rB, vB⟩
  have c_Unfit : ExcI K mg "Unfit" C_Unfit fI_Unfit ["first", "second"] := ⟨PySem.W.mg_of X G aC_Unfit, ⟨⟨_, _, _, _, _, _, _, _, _, _, _, _, _, _, _, xL_Unfit, refs_one fB⟩, sa_Unfit, eC_Unfit, tC_Unfit, kC_Unfit⟩, ⟨ga_Unfit, gg_Unfit, eC_Unfit, hC_Unfit⟩, iC_Unfit, tI_Unfit, (by intro f hf; simp only [List.mem_cons, List.not_mem_nil, or_false] at hf; rcases hf with rfl | rfl; exact nf0_Unfit; exact nf1_Unfit), exm_self eC_Unfit isC_Unfit tC_Unfit sC_Unfit⟩
  have FI_Unfit := fun_mk (st := st_Unfit___init__) lI_Unfit cI_Unfit kI_Unfit
  have bI_Unfit := FI_Unfit.binds (ps := ["self", "first", "second"]) fun _ _ _ _ _ _ us hl => match us, hl with | [_, _, _], _ => rfl
  have oC_Notebook : Cls K C_Notebook := ⟨opg_Notebook, ohd_Notebook, opo_Notebook, osa_Notebook⟩
  have ob_Notebook : ObC K C_Notebook ["notebook_states"] := ⟨oC_Notebook, by intro f hf; simp only [List.mem_cons, List.not_mem_nil, or_false] at hf; subst hf; exact on0_Notebook⟩
  have mC_Notebook := PySem.W.mg_of X G aC_Notebook
  have oi_Notebook : ObI K C_Notebook := ⟨oC_Notebook, oia_Notebook, kn, kq, oim_Notebook, kit_sub (by decide +kernel) oil_Notebook⟩
  have F_Notebook___init__ := fun_mk (st := st_Notebook___init__) l_Notebook___init__ c_Notebook___init__ k_Notebook___init__
  have b_Notebook___init__ := F_Notebook___init__.binds (ps := ["self"]) fun _ _ _ _ _ _ us hl => match us, hl with | [_], _ => rfl
  have c_InvalidBook : ExcN K mg "InvalidBook" C_InvalidBook := ⟨PySem.W.mg_of X G aC_InvalidBook, qC_InvalidBook, kC_InvalidBook, eC_InvalidBook, tC_InvalidBook, exm_self eC_InvalidBook isC_InvalidBook tC_InvalidBook sC_InvalidBook⟩
  have c_TooLarge : ExcN K mg "TooLarge" C_TooLarge := ⟨PySem.W.mg_of X G aC_TooLarge, qC_TooLarge, kC_TooLarge, eC_TooLarge, tC_TooLarge, exm_self eC_TooLarge isC_TooLarge tC_TooLarge sC_TooLarge⟩
  have d_InvalidBook_Unfit := exm_other eC_Unfit isC_Unfit tC_Unfit nC_InvalidBook_Unfit
  have d_TooLarge_Unfit := exm_other eC_Unfit isC_Unfit tC_Unfit nC_TooLarge_Unfit
  have ktab : KitTab K [C_InvalidBook, C_TooLarge] fB := by
    refine ⟨fun i j A D hi hj => ?_, fun A hA => ?_, fun A hA => ?_⟩
    · match i, hi with
      | 0, hi => cases hi; (match j, hj with
        | 0, hj => cases hj; exact kt_InvalidBook_InvalidBook
        | 1, hj => cases hj; exact kt_InvalidBook_TooLarge
        | n + 2, hj => simp at hj)
      | 1, hi => cases hi; (match j, hj with
        | 0, hj => cases hj; exact kt_TooLarge_InvalidBook
        | 1, hj => cases hj; exact kt_TooLarge_TooLarge
        | n + 2, hj => simp at hj)
      | n + 2, hi => simp at hi
    · simp only [List.mem_cons, List.not_mem_nil, or_false] at hA; rcases hA with rfl | rfl
      · exact ⟨xg_InvalidBook, xk_InvalidBook, eC_InvalidBook, xd_InvalidBook, xa_InvalidBook, kn, kq, xm_InvalidBook⟩
      · exact ⟨xg_TooLarge, xk_TooLarge, eC_TooLarge, xd_TooLarge, xa_TooLarge, kn, kq, xm_TooLarge⟩
    · simp only [List.mem_cons, List.not_mem_nil, or_false] at hA; rcases hA with rfl | rfl
      · exact exm_gen eB isB tB xb_InvalidBook
      · exact exm_gen eB isB tB xb_TooLarge
  have y_range := PySem.W.mg_none_of X G z_range
  have y_int := PySem.W.mg_none_of X G z_int
  have y_abs := PySem.W.mg_none_of X G z_abs
  have y_len := PySem.W.mg_none_of X G z_len
  have y_isinstance := PySem.W.mg_none_of X G z_isinstance
  have y_all := PySem.W.mg_none_of X G z_all
  have y_bool := PySem.W.mg_none_of X G z_bool
  have y_str := PySem.W.mg_none_of X G z_str
  have y_list := PySem.W.mg_none_of X G z_list
  have y_tuple := PySem.W.mg_none_of X G z_tuple
  have y_zip := PySem.W.mg_none_of X G z_zip
  have y_enumerate := PySem.W.mg_none_of X G z_enumerate
  have y_sorted := PySem.W.mg_none_of X G z_sorted
  have y_set := PySem.W.mg_none_of X G z_set
  have v_MOST_ITEMS : ∃ t, mg "MOST_ITEMS" = some (.int (24) t) := ⟨_, PySem.W.mg_of X G n_MOST_ITEMS⟩
  have v_MOST : ∃ t, mg "MOST" = some (.int (1000000000000000000000000000000) t) := ⟨_, PySem.W.mg_of X G n_MOST⟩
  have v_MOST_DIFFERENCE : ∃ t, mg "MOST_DIFFERENCE" = some (.int (1000000000) t) := ⟨_, PySem.W.mg_of X G n_MOST_DIFFERENCE⟩
  refine ⟨PySem.W.fnOf "law" "law" (defArgs st_law) (defBody st_law) (defScope st_law) .none kV_law dc_law pm_law an_law cd_law ct_law, fun s v => .of_eq rfl, fun base _ _ => ?_⟩
  have g_bag := fn_bag (base := base) (w := w) (P := l.prog) (mg := mg) y_int y_abs F_l_bag
  have e1_l_bag := fd_ok (n := 1) F_l_bag m_l_bag rfl b_l_bag TBag_mono g_bag
  have g_stirred := fn_stirred (base := base) (w := w) (P := l.prog) (mg := mg) y_int y_range F_l_stirred
  have e3_l_stirred := fd_ok (n := 2) F_l_stirred m_l_stirred rfl b_l_stirred TDraw_mono g_stirred
  have g_draw := fn_draw (base := base) (w := w) (P := l.prog) (mg := mg) y_len y_int e3_l_stirred F_l_draw
  have e5_l_draw := fd_ok (n := 2) F_l_draw m_l_draw rfl b_l_draw TDraw_mono g_draw
  have al0 := fd_ok (n := 2) F_l_alike m_l_alike rfl b_l_alike (TAlk_mono 0) (fn_alike (base := base) (w := w) (P := l.prog) (mg := mg) y_isinstance y_len y_all y_range y_bool y_int y_str y_list y_tuple F_l_alike 0 0 (fun m e => nomatch e))
  have al1 := fd_ok (n := 2) F_l_alike m_l_alike rfl b_l_alike (TAlk_mono 1) (fn_alike (base := base) (w := w) (P := l.prog) (mg := mg) y_isinstance y_len y_all y_range y_bool y_int y_str y_list y_tuple F_l_alike 1 1 (fun m e => by cases e; exact al0))
  have al2 := fd_ok (n := 2) F_l_alike m_l_alike rfl b_l_alike (TAlk_mono 2) (fn_alike (base := base) (w := w) (P := l.prog) (mg := mg) y_isinstance y_len y_all y_range y_bool y_int y_str y_list y_tuple F_l_alike 2 2 (fun m e => by cases e; exact al1))
  have g_nb_init := fn_nb_init (base := base) (w := w) (P := l.prog) (mg := mg) ob_Notebook F_Notebook___init__
  have o10_Notebook___init__ := FMk.mk (P := l.prog) (w := w) (mg := mg) (base := base) (x := "Notebook") (TInit_mono _) mC_Notebook ⟨_, _, _, ⟨omk_Notebook, at_Notebook___init__, fn_Notebook___init__, okc_Notebook⟩, b_Notebook___init__, g_nb_init⟩
  have g_bad_book := fn_bad_book (base := base) (w := w) (P := l.prog) (mg := mg) y_range e5_l_draw o10_Notebook___init__ F_l_bad_book
  have e12_l_bad_book := fd_ok (n := 1) F_l_bad_book m_l_bad_book rfl b_l_bad_book (TBadB_mono _) g_bad_book
  have g_is_integerX := fn_is_integerX (base := base) (w := w) (P := l.prog) (mg := mg) y_isinstance y_int y_bool F_is_integer
  have e14_is_integer := fd_ok (n := 1) F_is_integer m_is_integer rfl b_is_integer TIntX_mono g_is_integerX
  have g_is_toldX := fn_is_toldX (base := base) (w := w) (P := l.prog) (mg := mg) v_MOST e14_is_integer F_is_told
  have e16_is_told := fd_ok (n := 1) F_is_told m_is_told rfl b_is_told TToldX_mono g_is_toldX
  have g_is_itemX := fn_is_itemX (base := base) (w := w) (P := l.prog) (mg := mg) y_isinstance y_len y_tuple e16_is_told F_is_item
  have e18_is_item := fd_ok (n := 1) F_is_item m_is_item rfl b_is_item TItemX_mono g_is_itemX
  have g_is_bookX := fn_is_bookX (base := base) (w := w) (P := l.prog) (mg := mg) oi_Notebook y_isinstance y_len y_list y_all y_zip v_MOST_ITEMS e18_is_item F_is_book
  have e20_is_book := fd_ok (n := 1) F_is_book m_is_book rfl b_is_book (TBadBk_mono _) g_is_bookX
  have g_need_bookX := fn_need_bookX (base := base) (w := w) (P := l.prog) (mg := mg) c_InvalidBook e20_is_book F_need_book
  have e22_need_book := fd_ok (n := 1) F_need_book m_need_book rfl b_need_book (TNeedBad_mono _ _) g_need_bookX
  have g_need_possibleB := fn_need_possibleB (base := base) (w := w) (P := l.prog) (mg := mg) e22_need_book F_need_possible
  have g_is_integer := fn_is_integer (base := base) (w := w) (P := l.prog) (mg := mg) y_isinstance y_int y_bool F_is_integer
  have e25_is_integer := fd_ok (n := 1) F_is_integer m_is_integer rfl b_is_integer TInt1_mono g_is_integer
  have g_is_told := fn_is_told (base := base) (w := w) (P := l.prog) (mg := mg) v_MOST e25_is_integer F_is_told
  have e27_is_told := fd_ok (n := 1) F_is_told m_is_told rfl b_is_told TTold_mono g_is_told
  have g_is_item := fn_is_item (base := base) (w := w) (P := l.prog) (mg := mg) y_isinstance y_len y_tuple e27_is_told F_is_item
  have e29_is_item := fd_ok (n := 1) F_is_item m_is_item rfl b_is_item TIsItem_mono g_is_item
  have g_is_book := fn_is_book (base := base) (w := w) (P := l.prog) (mg := mg) y_isinstance y_len y_list y_all y_zip v_MOST_ITEMS e29_is_item F_is_book
  have e31_is_book := fd_ok (n := 1) F_is_book m_is_book rfl b_is_book TIsBook_mono g_is_book
  have g_need_book := fn_need_book (base := base) (w := w) (P := l.prog) (mg := mg) e31_is_book F_need_book
  have e33_need_book := fd_ok (n := 1) F_need_book m_need_book rfl b_need_book TNeedBook_mono g_need_book
  have g_unfit_init := fn_unfit_init (base := base) (w := w) (P := l.prog) (mg := mg) c_Unfit bI FI_Unfit
  have g_divides := fn_divides (base := base) (w := w) (P := l.prog) (mg := mg) F_divides
  have e36_divides := fd_ok (n := 2) F_divides m_divides rfl b_divides TDivs_mono g_divides
  have g_do_fit := fn_do_fit (base := base) (w := w) (P := l.prog) (mg := mg) e36_divides F_do_fit
  have e38_do_fit := fd_ok (n := 2) F_do_fit m_do_fit rfl b_do_fit TFit_mono g_do_fit
  have g_conflicts_inG := fn_conflicts_inG (base := base) (w := w) (P := l.prog) (mg := mg) y_enumerate y_range y_len e38_do_fit F_conflicts_in
  have e40_conflicts_in := fd_ok (n := 1) F_conflicts_in m_conflicts_in rfl b_conflicts_in TConfs_mono g_conflicts_inG
  have g_conflict_inG := fn_conflict_inG (base := base) (w := w) (P := l.prog) (mg := mg) e40_conflicts_in F_conflict_in
  have e42_conflict_in := fd_ok (n := 1) F_conflict_in m_conflict_in rfl b_conflict_in TConfl_mono g_conflict_inG
  have g_need_fittingX := fn_need_fittingX (base := base) (w := w) (P := l.prog) (mg := mg) c_Unfit g_unfit_init bI_Unfit e42_conflict_in F_need_fitting
  have e44_need_fitting := fd_ok (n := 1) F_need_fitting m_need_fitting rfl b_need_fitting (TFitX_mono _) g_need_fittingX
  have g_need_possibleX := fn_need_possibleX (base := base) (w := w) (P := l.prog) (mg := mg) e33_need_book e44_need_fitting F_need_possible
  have e46_need_possible := fd_ok (n := 1) F_need_possible m_need_possible rfl b_need_possible (TPossE_mono _ _ _) (fn_or g_need_possibleB g_need_possibleX (possE_or _ _ _))
  have g_places_byX := fn_places_byX (base := base) (w := w) (P := l.prog) (mg := mg) c_TooLarge y_abs y_sorted v_MOST_DIFFERENCE F_places_by
  have e48_places_by := fd_ok (n := 2) F_places_by m_places_by rfl b_places_by (TByFar_mono _) g_places_byX
  have g_places_forE := fn_places_forE (base := base) (w := w) (P := l.prog) (mg := mg) e46_need_possible e48_places_by F_places_for
  have g_conflicts_in := fn_conflicts_in (base := base) (w := w) (P := l.prog) (mg := mg) y_enumerate y_range y_len e38_do_fit F_conflicts_in
  have e51_conflicts_in := fd_ok (n := 1) F_conflicts_in m_conflicts_in rfl b_conflicts_in TConf0_mono g_conflicts_in
  have g_conflict_in := fn_conflict_in (base := base) (w := w) (P := l.prog) (mg := mg) e51_conflicts_in F_conflict_in
  have e53_conflict_in := fd_ok (n := 1) F_conflict_in m_conflict_in rfl b_conflict_in TPoss_mono g_conflict_in
  have g_need_fitting := fn_need_fitting (base := base) (w := w) (P := l.prog) (mg := mg) e53_conflict_in F_need_fitting
  have e55_need_fitting := fd_ok (n := 1) F_need_fitting m_need_fitting rfl b_need_fitting TPoss_mono g_need_fitting
  have g_need_possible := fn_need_possible (base := base) (w := w) (P := l.prog) (mg := mg) e33_need_book e55_need_fitting F_need_possible
  have e57_need_possible := fd_ok (n := 1) F_need_possible m_need_possible rfl b_need_possible TPoss_mono g_need_possible
  have g_divisors_in := fn_divisors_in (base := base) (w := w) (P := l.prog) (mg := mg) F_divisors_in
  have e59_divisors_in := fd_ok (n := 1) F_divisors_in m_divisors_in rfl b_divisors_in TDivisors_mono g_divisors_in
  have g_places_by := fn_places_by (base := base) (w := w) (P := l.prog) (mg := mg) y_abs y_all y_set y_sorted v_MOST_DIFFERENCE e59_divisors_in e36_divides F_places_by
  have e61_places_by := fd_ok (n := 2) F_places_by m_places_by rfl b_places_by TPlacesBy_mono g_places_by
  have g_places_for := fn_places_for (base := base) (w := w) (P := l.prog) (mg := mg) e57_need_possible e61_places_by F_places_for
  have e63_places_for := fd_ok (n := 2) F_places_for m_places_for rfl b_places_for (TStX_mono _ _ _ _ _) (fn_or g_places_forE g_places_for (for_or _ _ _ _))
  have g_has_placeE := fn_has_placeE (base := base) (w := w) (P := l.prog) (mg := mg) e46_need_possible e48_places_by F_has_place
  have g_has_place := fn_has_place (base := base) (w := w) (P := l.prog) (mg := mg) e57_need_possible e61_places_by F_has_place
  have e66_has_place := fd_ok (n := 2) F_has_place m_has_place rfl b_has_place (TStX_mono _ _ _ _ _) (fn_or g_has_placeE g_has_place (has_or _ _ _ _))
  have g_nearest_placeE := fn_nearest_placeE (base := base) (w := w) (P := l.prog) (mg := mg) e46_need_possible e48_places_by F_nearest_place
  have g_nearest_place := fn_nearest_place (base := base) (w := w) (P := l.prog) (mg := mg) y_abs y_sorted e57_need_possible e61_places_by F_nearest_place
  have e69_nearest_place := fd_ok (n := 3) F_nearest_place m_nearest_place rfl b_nearest_place (TStX_mono _ _ _ _ _) (fn_or g_nearest_placeE g_nearest_place (near_or _ _ _ _))
  have g_asked := fn_asked (base := base) (w := w) (P := l.prog) (mg := mg) c_Unfit y_isinstance bI.g c_InvalidBook.g c_TooLarge.g d_InvalidBook_Unfit d_TooLarge_Unfit ktab e63_places_for e66_has_place e69_nearest_place F_l_asked
  have e71_l_asked := fd_ok (n := 3) F_l_asked m_l_asked rfl b_l_asked (TAsk3_mono _) g_asked
  exact fn_law (base := base) (w := w) (P := l.prog) (mg := mg) y_range y_int e1_l_bag e5_l_draw al2 e12_l_bad_book e71_l_asked F_law
theorem walk {l : PySem.W.OpenLaw} {q : Program} {loose : List Str} {XP : (Str → Option Value) → Heap → Prop} {YP : World → Heap → Prop} {d : DefRec} {K : Params → PySem.W.Frag} (hn : l.most = some 63) (hdf : d.params.defaults = [])
    (hY : ∀ (w : World) (h : Heap), YP w h → (K w.params).In h)
    (F : ∀ (w : World) (mg : Str → Option Value) (fa : Addr) (h : Heap), (K w.params).In h → h.Ns mainGlobals mg → mg d.name = some (.ref fa) →
      ∃ fd : FuncData, (∀ (s : Shared) (u : Value), BindsTo s fd ⟨[u], []⟩ [("_law_script", u)]) ∧ ∀ base : Heap, (K w.params).In base → base.Ns mainGlobals mg → FnOk l.prog w (K w.params) mg base (L2.CX l.prog w) 9 fa fd ["_law_script"] (spG (K w.params) TLaw)) :
    PySem.W.WalkO q loose XP YP l.row.toRowW d [] (fun f vs => PySem.call f vs) :=
  L2.walk_of (n := 63) (k := 9) (x := "_law_script") (CX := fun w => L2.CX l.prog w) (sp := fun w => spG (K w.params) TLaw) hn (by decide) hdf ⟨rfl, by decide, by decide⟩ hY F (fun w H a ns hl _ hS => law_sp hl hS) fun w H s e s' z => by
    obtain ⟨_, _, _, _, _, _, _, _, _, _, _, _, z⟩ := z
    exact z
end PW
open PySem PySem.W PyProof.Rows
set_option maxHeartbeats 0 in
theorem PySem.Challenge.cw_keeprests_k53_errors_of_stands_holds : PySem.Challenge.rw_keeprests_k53_errors_of_stands.Holds := by
  refine headX ?_
  k_fill
  refine PW.walk (l := PySem.Challenge.rw_keeprests_k53_errors_of_stands) rfl rfl (fun w h Y => PySem.W.kIn_of Y) ?F
  case F =>
    intro w mg fa h KX G hmg
    refine' PW.top_all KX G hmg ?aB ?sB ?rB ?vB ?aC_Unfit ?xL_Unfit ?sa_Unfit ?ga_Unfit ?gg_Unfit ?nf0_Unfit ?nf1_Unfit ?iC_Unfit ?tI_Unfit ?lI_Unfit ?cI_Unfit ?kI_Unfit ?kC_Unfit ?eC_Unfit ?tC_Unfit ?hC_Unfit ?isC_Unfit ?sC_Unfit ?aC_InvalidBook ?qC_InvalidBook ?kC_InvalidBook ?eC_InvalidBook ?tC_InvalidBook ?isC_InvalidBook ?sC_InvalidBook ?aC_TooLarge ?qC_TooLarge ?kC_TooLarge ?eC_TooLarge ?tC_TooLarge ?isC_TooLarge ?sC_TooLarge ?nC_InvalidBook_Unfit ?nC_TooLarge_Unfit ?a_is_integer ?l_is_integer ?c_is_integer ?k_is_integer ?a_is_told ?l_is_told ?c_is_told ?k_is_told ?a_is_item ?l_is_item ?c_is_item ?k_is_item ?a_is_book ?l_is_book ?c_is_book ?k_is_book ?a_need_book ?l_need_book ?c_need_book ?k_need_book ?a_divides ?l_divides ?c_divides ?k_divides ?a_do_fit ?l_do_fit ?c_do_fit ?k_do_fit ?a_conflicts_in ?l_conflicts_in ?c_conflicts_in ?k_conflicts_in ?a_conflict_in ?l_conflict_in ?c_conflict_in ?k_conflict_in ?a_need_fitting ?l_need_fitting ?c_need_fitting ?k_need_fitting ?a_need_possible ?l_need_possible ?c_need_possible ?k_need_possible ?a_divisors_in ?l_divisors_in ?c_divisors_in ?k_divisors_in ?a_places_by ?l_places_by ?c_places_by ?k_places_by ?a_places_for ?l_places_for ?c_places_for ?k_places_for ?a_has_place ?l_has_place ?c_has_place ?k_has_place ?a_nearest_place ?l_nearest_place ?c_nearest_place ?k_nearest_place ?a_l_bag ?l_l_bag ?c_l_bag ?k_l_bag ?a_l_stirred ?l_l_stirred ?c_l_stirred ?k_l_stirred ?a_l_draw ?l_l_draw ?c_l_draw ?k_l_draw ?a_l_alike ?l_l_alike ?c_l_alike ?k_l_alike ?a_l_bad_book ?l_l_bad_book ?c_l_bad_book ?k_l_bad_book ?a_l_asked ?l_l_asked ?c_l_asked ?k_l_asked ?a_law ?l_law ?c_law ?k_law ?aC_Notebook ?opg_Notebook ?ohd_Notebook ?opo_Notebook ?osa_Notebook ?omk_Notebook ?okc_Notebook ?on0_Notebook ?oia_Notebook ?oim_Notebook ?oil_Notebook ?at_Notebook___init__ ?fn_Notebook___init__ ?l_Notebook___init__ ?c_Notebook___init__ ?k_Notebook___init__ ?eB ?isB ?tB ?kn ?kq ?xg_InvalidBook ?xk_InvalidBook ?xd_InvalidBook ?xa_InvalidBook ?xm_InvalidBook ?xb_InvalidBook ?kt_InvalidBook_InvalidBook ?kt_InvalidBook_TooLarge ?xg_TooLarge ?xk_TooLarge ?xd_TooLarge ?xa_TooLarge ?xm_TooLarge ?xb_TooLarge ?kt_TooLarge_InvalidBook ?kt_TooLarge_TooLarge ?z_range ?z_int ?z_abs ?z_len ?z_isinstance ?z_all ?z_bool ?z_str ?z_list ?z_tuple ?z_zip ?z_enumerate ?z_sorted ?z_set ?n_MOST_ITEMS ?n_MOST ?n_MOST_DIFFERENCE
    (case aB => k_is)
    (case sB => k_is)
    (case rB => k_is)
    (case vB => k_is)
    (case aC_Unfit => k_is)
    (case xL_Unfit => k_is)
    (case sa_Unfit => k_is)
    (case ga_Unfit => k_is)
    (case gg_Unfit => k_is)
    (case nf0_Unfit => k_is)
    (case nf1_Unfit => k_is)
    (case iC_Unfit => k_is)
    (case tI_Unfit => k_is)
    (case lI_Unfit => k_is)
    (case cI_Unfit => k_is)
    (case kI_Unfit => k_is)
    (case kC_Unfit => k_is)
    (case eC_Unfit => k_is)
    (case tC_Unfit => k_is)
    (case hC_Unfit => k_is)
    (case isC_Unfit => k_is)
    (case sC_Unfit => first | rfl | k_is)
    (case aC_InvalidBook => k_is)
    (case qC_InvalidBook => first | k_exc | k_is)
    (case kC_InvalidBook => k_is)
    (case eC_InvalidBook => k_is)
    (case tC_InvalidBook => k_is)
    (case isC_InvalidBook => k_is)
    (case sC_InvalidBook => first | rfl | k_is)
    (case aC_TooLarge => k_is)
    (case qC_TooLarge => first | k_exc | k_is)
    (case kC_TooLarge => k_is)
    (case eC_TooLarge => k_is)
    (case tC_TooLarge => k_is)
    (case isC_TooLarge => k_is)
    (case sC_TooLarge => first | rfl | k_is)
    (case nC_InvalidBook_Unfit => first | rfl | k_is)
    (case nC_TooLarge_Unfit => first | rfl | k_is)
    (case a_is_integer => k_is)
    (case l_is_integer => k_is)
    (case c_is_integer => k_is)
    (case k_is_integer => k_is)
    (case a_is_told => k_is)
    (case l_is_told => k_is)
    (case c_is_told => k_is)
    (case k_is_told => k_is)
    (case a_is_item => k_is)
    (case l_is_item => k_is)
    (case c_is_item => k_is)
    (case k_is_item => k_is)
    (case a_is_book => k_is)
    (case l_is_book => k_is)
    (case c_is_book => k_is)
    (case k_is_book => k_is)
    (case a_need_book => k_is)
    (case l_need_book => k_is)
    (case c_need_book => k_is)
    (case k_need_book => k_is)
    (case a_divides => k_is)
    (case l_divides => k_is)
    (case c_divides => k_is)
    (case k_divides => k_is)
    (case a_do_fit => k_is)
    (case l_do_fit => k_is)
    (case c_do_fit => k_is)
    (case k_do_fit => k_is)
    (case a_conflicts_in => k_is)
    (case l_conflicts_in => k_is)
    (case c_conflicts_in => k_is)
    (case k_conflicts_in => k_is)
    (case a_conflict_in => k_is)
    (case l_conflict_in => k_is)
    (case c_conflict_in => k_is)
    (case k_conflict_in => k_is)
    (case a_need_fitting => k_is)
    (case l_need_fitting => k_is)
    (case c_need_fitting => k_is)
    (case k_need_fitting => k_is)
    (case a_need_possible => k_is)
    (case l_need_possible => k_is)
    (case c_need_possible => k_is)
    (case k_need_possible => k_is)
    (case a_divisors_in => k_is)
    (case l_divisors_in => k_is)
    (case c_divisors_in => k_is)
    (case k_divisors_in => k_is)
    (case a_places_by => k_is)
    (case l_places_by => k_is)
    (case c_places_by => k_is)
    (case k_places_by => k_is)
    (case a_places_for => k_is)
    (case l_places_for => k_is)
    (case c_places_for => k_is)
    (case k_places_for => k_is)
    (case a_has_place => k_is)
    (case l_has_place => k_is)
    (case c_has_place => k_is)
    (case k_has_place => k_is)
    (case a_nearest_place => k_is)
    (case l_nearest_place => k_is)
    (case c_nearest_place => k_is)
    (case k_nearest_place => k_is)
    (case a_l_bag => k_is)
    (case l_l_bag => k_is)
    (case c_l_bag => k_is)
    (case k_l_bag => k_is)
    (case a_l_stirred => k_is)
    (case l_l_stirred => k_is)
    (case c_l_stirred => k_is)
    (case k_l_stirred => k_is)
    (case a_l_draw => k_is)
    (case l_l_draw => k_is)
    (case c_l_draw => k_is)
    (case k_l_draw => k_is)
    (case a_l_alike => k_is)
    (case l_l_alike => k_is)
    (case c_l_alike => k_is)
    (case k_l_alike => k_is)
    (case a_l_bad_book => k_is)
    (case l_l_bad_book => k_is)
    (case c_l_bad_book => k_is)
    (case k_l_bad_book => k_is)
    (case a_l_asked => k_is)
    (case l_l_asked => k_is)
    (case c_l_asked => k_is)
    (case k_l_asked => k_is)
    (case a_law => k_is)
    (case l_law => k_is)
    (case c_law => k_is)
    (case k_law => k_is)
    (case aC_Notebook => k_is)
    (case opg_Notebook => k_is)
    (case ohd_Notebook => k_is)
    (case opo_Notebook => k_is)
    (case osa_Notebook => k_is)
    (case omk_Notebook => k_is)
    (case okc_Notebook => k_is)
    (case on0_Notebook => k_is)
    (case oia_Notebook => k_is)
    (case oim_Notebook => k_is)
    (case oil_Notebook => k_is)
    (case at_Notebook___init__ => k_is)
    (case fn_Notebook___init__ => k_is)
    (case l_Notebook___init__ => k_is)
    (case c_Notebook___init__ => k_is)
    (case k_Notebook___init__ => k_is)
    (case eB => k_is)
    (case isB => k_is)
    (case tB => k_is)
    (case kn => first | rfl | k_is)
    (case kq => first | rfl | k_is)
    (case xg_InvalidBook => k_is)
    (case xk_InvalidBook => k_is)
    (case xd_InvalidBook => k_is)
    (case xa_InvalidBook => k_is)
    (case xm_InvalidBook => k_is)
    (case xb_InvalidBook => first | rfl | k_is)
    (case kt_InvalidBook_InvalidBook => first | rfl | k_is)
    (case kt_InvalidBook_TooLarge => first | rfl | k_is)
    (case xg_TooLarge => k_is)
    (case xk_TooLarge => k_is)
    (case xd_TooLarge => k_is)
    (case xa_TooLarge => k_is)
    (case xm_TooLarge => k_is)
    (case xb_TooLarge => first | rfl | k_is)
    (case kt_TooLarge_InvalidBook => first | rfl | k_is)
    (case kt_TooLarge_TooLarge => first | rfl | k_is)
    (case z_range => k_is)
    (case z_int => k_is)
    (case z_abs => k_is)
    (case z_len => k_is)
    (case z_isinstance => k_is)
    (case z_all => k_is)
    (case z_bool => k_is)
    (case z_str => k_is)
    (case z_list => k_is)
    (case z_tuple => k_is)
    (case z_zip => k_is)
    (case z_enumerate => k_is)
    (case z_sorted => k_is)
    (case z_set => k_is)
    (case n_MOST_ITEMS => k_is)
    (case n_MOST => k_is)
    (case n_MOST_DIFFERENCE => k_is)
