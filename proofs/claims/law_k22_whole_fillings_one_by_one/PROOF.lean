import PyProof.Rows.All
import Wide.All
import OpenK.AllK
import Wide.FinOn
import HandS.ForMost
import HandS.ForExc
import HandS.Walk
import HandS.Wide
import HandS.WideBits
import HandS.Strs
import HandS.IsInst
import HandS.Style
import HandS.Deep
import HandS.CallSlots
import HandS.SetFor
import HandS.RaiseMore
import HandS.ExcInit
import HandS.SortRule
import HandS.SortInts
import HandS.Conv
import PyProof.P3Eq
import HandS.TryOnly
import HandS.TupLe
import PyProof.LongRange
import HandS.Defaults
import HandS.ExcField
import KE.KDictZip
import HandS.Iter
import HandS.TupSets
import HandS.SortOrd
import HandS.TryMany
import HandS.Exc
import PyProof.Rows.RuleB_and
import KE.KBits
import KE.GoesMore
import KE.GoesZip
import KE.GoesEnum
import PySem.Challenge.RW_keeprests_k22_whole_fillings_one_by_one
set_option Elab.async false
set_option linter.all false
set_option maxRecDepth 100000
set_option maxHeartbeats 4000000
section
open PySem PySem.W PyProof.Rows
set_option maxHeartbeats 0 in
open_top headX for PySem.Challenge.rw_keeprests_k22_whole_fillings_one_by_one
end
/-! PW1 -/
namespace PW
open PySem L2

/-- data: cel a the mutable list (a cell) at a; raw v any other value; exc a dd fs the exception at a, its dict at dd, its fields being ints -/
inductive D where
  | non | bl (b : Bool) | int (i : Int) | str (x : Str) | tup (ds : List D) | lst (ds : List D) | cel (a : Addr) | raw (v : V)
  | exc (a dd : Addr) (fs : List (Str × Int))
inductive Cell where
  | lst (ds : List D) | dct (kvs : List (Key × D)) | set (w : World) (f : Int → Bool) (n : Nat)
abbrev Cells := List (Addr × Cell)
abbrev Slots := List (Option D)

mutual
inductive Rep (K : PySem.W.Frag) (F : Hp) : V → D → Prop
  | non : Rep K F .non .non
  | bl (b : Bool) : Rep K F (.bl b) (.bl b)
  | int (i : Int) : Rep K F (.int i) (.int i)
  | str (x : Str) : Rep K F (.str x) (.str x)
  | tup {a : Addr} {vs : List V} {ds : List D} : SqT K F a vs → Reps K F vs ds → Rep K F (.ref a) (.tup ds)
  | lst {a : Addr} {vs : List V} {ds : List D} : SqL K F a vs → Reps K F vs ds → Rep K F (.ref a) (.lst ds)
  | cel (a : Addr) : Rep K F (.ref a) (.cel a)
  | raw (v : V) : Rep K F v (.raw v)
  | exc (a dd : Addr) (fs : List (Str × Int)) : F dd = some (.xd (fs.map fun p => (p.1, V.int p.2))) → Rep K F (.ref a) (.exc a dd fs)
inductive Reps (K : PySem.W.Frag) (F : Hp) : List V → List D → Prop
  | nil : Reps K F [] []
  | cons {v : V} {vs : List V} {d : D} {ds : List D} : Rep K F v d → Reps K F vs ds → Reps K F (v :: vs) (d :: ds)
end

theorem Same.tup {K : PySem.W.Frag} {H H' : Hp} {a : Addr} {xs : List V} (e : Same H H') (h : SqT K H a xs) : SqT K H' a xs := by
  rcases h with (h | ⟨o, h⟩) | h
  · exact .inl (.inl (e _ _ h))
  · exact .inl (.inr ⟨o, e _ _ h⟩)
  · exact .inr h

section
variable {K : PySem.W.Frag} {F F' : Hp}
mutual
theorem Rep.mono (s : Same F F') : ∀ (d : D) (v : V), Rep K F v d → Rep K F' v d
  | .non, _, h => by cases h; exact .non
  | .bl _, _, h => by cases h; exact .bl _
  | .int _, _, h => by cases h; exact .int _
  | .str _, _, h => by cases h; exact .str _
  | .tup ds, _, h => by cases h with | tup a b => exact .tup (Same.tup s a) (Reps.mono s ds _ b)
  | .lst ds, _, h => by cases h with | lst a b => exact .lst (s.seq a) (Reps.mono s ds _ b)
  | .cel k, _, h => by cases h with | cel a => exact .cel _
  | .raw _, _, h => by cases h; exact .raw _
  | .exc _ _ _, _, h => by cases h with | exc _ _ _ e => exact .exc _ _ _ (s _ _ e)
theorem Reps.mono (s : Same F F') : ∀ (ds : List D) (vs : List V), Reps K F vs ds → Reps K F' vs ds
  | [], _, h => by cases h; exact .nil
  | d :: ds, _, h => by cases h with | cons a b => exact .cons (Rep.mono s d _ a) (Reps.mono s ds _ b)
end
theorem Rep.up {v : V} {d : D} (h : Rep K F v d) (s : Same F F') : Rep K F' v d := Rep.mono s d v h
theorem Reps.up {vs : List V} {ds : List D} (h : Reps K F vs ds) (s : Same F F') : Reps K F' vs ds := Reps.mono s ds vs h
theorem Reps.length : ∀ {vs : List V} {ds : List D}, Reps K F vs ds → vs.length = ds.length
  | _, [], h => by cases h; rfl
  | _, d :: ds, h => by cases h with | cons a b => simp [Reps.length b]
theorem Reps.get : ∀ {vs : List V} {ds : List D} {i : Nat} {d : D}, Reps K F vs ds → ds[i]? = some d → ∃ v, vs[i]? = some v ∧ Rep K F v d
  | _, [], i, d, h, e => by simp at e
  | _, d0 :: ds, 0, d, h, e => by
    cases h with | cons a b => simp at e; subst e; exact ⟨_, rfl, a⟩
  | _, d0 :: ds, i + 1, d, h, e => by
    cases h with
    | cons a b =>
      obtain ⟨v, h1, h2⟩ := Reps.get (i := i) b (by simpa using e)
      exact ⟨v, by simpa using h1, h2⟩
theorem Reps.get' : ∀ {vs : List V} {ds : List D} {i : Nat} {v : V}, Reps K F vs ds → vs[i]? = some v → ∃ d, ds[i]? = some d ∧ Rep K F v d
  | _, [], i, v, h, e => by cases h; simp at e
  | _, d0 :: ds, 0, v, h, e => by
    cases h with | cons a b => simp at e; subst e; exact ⟨_, rfl, a⟩
  | _, d0 :: ds, i + 1, v, h, e => by
    cases h with
    | cons a b =>
      obtain ⟨d, h1, h2⟩ := Reps.get' (i := i) b (by simpa using e)
      exact ⟨d, by simpa using h1, h2⟩
theorem Reps.append : ∀ {vs ws : List V} {ds es : List D}, Reps K F vs ds → Reps K F ws es → Reps K F (vs ++ ws) (ds ++ es)
  | _, _, [], es, h, g => by cases h; exact g
  | _, _, d :: ds, es, h, g => by cases h with | cons a b => exact .cons a (b.append g)
theorem Reps.take : ∀ {vs : List V} {ds : List D} (n : Nat), Reps K F vs ds → Reps K F (vs.take n) (ds.take n)
  | _, _, 0, _ => by simpa using Reps.nil
  | _, [], n + 1, h => by cases h; exact .nil
  | _, d :: ds, n + 1, h => by cases h with | cons a b => simpa using Reps.cons a (b.take n)
theorem Reps.drop : ∀ {vs : List V} {ds : List D} (n : Nat), Reps K F vs ds → Reps K F (vs.drop n) (ds.drop n)
  | _, _, 0, h => by simpa using h
  | _, [], n + 1, h => by cases h; exact .nil
  | _, d :: ds, n + 1, h => by cases h with | cons a b => simpa using b.drop n
theorem Reps.set : ∀ {vs : List V} {ds : List D} {v : V} {d : D} (n : Nat), Rep K F v d → Reps K F vs ds → Reps K F (vs.set n v) (ds.set n d)
  | _, [], _, _, n, r, h => by cases h; exact .nil
  | _, _ :: ds, _, _, 0, r, h => by cases h with | cons a b => exact .cons r b
  | _, _ :: ds, _, _, n + 1, r, h => by cases h with | cons a b => exact .cons a (b.set n r)
theorem Reps.replicate {vs : List V} {ds : List D} (h : Reps K F vs ds) : ∀ n : Nat, Reps K F (List.replicate n vs).flatten (List.replicate n ds).flatten
  | 0 => .nil
  | n + 1 => by simpa [List.replicate_succ] using h.append (h.replicate n)
theorem Reps.ints : ∀ (ns : List Int), Reps K F (ns.map V.int) (ns.map D.int)
  | [] => .nil
  | n :: ns => .cons (.int n) (Reps.ints ns)
theorem Reps.ints_inv : ∀ {ns : List Int} {vs : List V}, Reps K F vs (ns.map D.int) → vs = ns.map V.int
  | [], _, h => by cases h; rfl
  | n :: ns, _, h => by cases h with | cons a b => cases a; rw [Reps.ints_inv b]; rfl
theorem Reps.bls_inv : ∀ {ns : List Bool} {vs : List V}, Reps K F vs (ns.map D.bl) → vs = ns.map V.bl
  | [], _, h => by cases h; rfl
  | n :: ns, _, h => by cases h with | cons a b => cases a; rw [Reps.bls_inv b]; rfl
end


def KVs (K : PySem.W.Frag) (F : Hp) : List (Key × V) → List (Key × D) → Prop := Paired fun p q => p.1 = q.1 ∧ Rep K F p.2 q.2
theorem KVs.up {K : PySem.W.Frag} {F F' : Hp} (s : Same F F') : ∀ {xs : List (Key × V)} {ys : List (Key × D)}, KVs K F xs ys → KVs K F' xs ys
  | _, _, .nil => .nil
  | _, _, .cons h t => .cons ⟨h.1, h.2.up s⟩ (KVs.up s t)
def CellIs (K : PySem.W.Frag) (F : Hp) (H : Hp) (a : Addr) : Cell → Prop
  | .lst ds => ∃ vs, H a = some (.lst vs) ∧ Reps K F vs ds
  | .dct kvs => ∃ xs, H a = some (.dK xs) ∧ KVs K F xs kvs
  | .set w f n => H a = some (SetO w a f n)
structure Stt (K : PySem.W.Frag) (F : Hp) (M : Cells) (δ : Slots) (σ : L2.St) (H : Hp) : Prop where
  le : Same F H
  nd : (M.map Prod.fst).Nodup
  cell : ∀ p ∈ M, CellIs K F H p.1 p.2
  out : ∀ p ∈ M, F p.1 = none
  slot : ∀ (i : Nat) (d : D), δ[i]? = some (some d) → ∃ v, σ[i]? = some (some v) ∧ Rep K F v d
  dlen : δ.length = σ.length

section
variable {K : PySem.W.Frag} {F F' : Hp} {M M' : Cells} {δ : Slots} {σ : L2.St} {H H' : Hp}
theorem CellIs.mono (s : Same F F') {a : Addr} {c : Cell} (h : CellIs K F H a c) (e : H' a = H a) : CellIs K F' H' a c := by
  cases c with
  | lst ds => obtain ⟨vs, h1, h2⟩ := h; exact ⟨vs, e.trans h1, h2.up s⟩
  | dct kvs => obtain ⟨vs, h1, h2⟩ := h; exact ⟨vs, e.trans h1, KVs.up s h2⟩
  | set w f n => exact e.trans h
theorem CellIs.born {a : Addr} {c : Cell} (h : CellIs K F H a c) : H a ≠ none := by
  cases c with
  | lst ds => obtain ⟨vs, h1, h2⟩ := h; rw [h1]; simp
  | dct kvs => obtain ⟨vs, h1, h2⟩ := h; rw [h1]; simp
  | set w f n => exact fun z => by rw [show H a = _ from h] at z; cases z
theorem Stt.cellAt (S : Stt K F M δ σ H) {a : Addr} {ds : List D} (h : (a, Cell.lst ds) ∈ M) : ∃ vs, H a = some (.lst vs) ∧ F a = none ∧ Reps K F vs ds := by
  obtain ⟨vs, h1, h2⟩ := S.cell _ h
  exact ⟨vs, h1, S.out _ h, h2⟩
theorem Stt.none_of (S : Stt K F M δ σ H) {a : Addr} (h : H a = none) : F a = none := by
  cases e : F a with
  | none => rfl
  | some u => rw [S.le a u e] at h; cases h
theorem Stt.ne_cell (S : Stt K F M δ σ H) {a : Addr} (h : H a = none) {p : Addr × Cell} (hp : p ∈ M) : p.1 ≠ a := fun z => (S.cell p hp).born (by rw [z]; exact h)
/-- a new object that is no cell, laid as frozen -/
theorem Stt.froz (S : Stt K F M δ σ H) {a : Addr} {o : HO} (h : H a = none) : Stt K (upd F a o) M δ σ (upd H a o) ∧ Same F (upd F a o) := by
  have fa : F a = none := S.none_of h
  have s : Same F (upd F a o) := fun b u e => by rw [upd_ne (ne_of_none e fa)]; exact e
  refine ⟨⟨fun b u e => ?_, S.nd, fun p hp => ?_, fun p hp => ?_, fun i d e => ?_, S.dlen⟩, s⟩
  · by_cases hb : b = a
    · subst hb; rw [upd_same] at e ⊢; exact e
    · rw [upd_ne hb] at e ⊢; exact S.le b u e
  · exact (S.cell p hp).mono s (by rw [upd_ne (S.ne_cell h hp)])
  · rw [upd_ne (S.ne_cell h hp)]; exact S.out p hp
  · obtain ⟨v, h1, h2⟩ := S.slot i d e
    exact ⟨v, h1, h2.up s⟩
/-- a new object, laid as a cell -/
theorem Stt.newCell (S : Stt K F M δ σ H) {a : Addr} {o : HO} {c : Cell} (h : H a = none) (hc : CellIs K F (upd H a o) a c) : Stt K F ((a, c) :: M) δ σ (upd H a o) := by
  have fa : F a = none := S.none_of h
  refine ⟨fun b u e => ?_, ?_, fun p hp => ?_, fun p hp => ?_, S.slot, S.dlen⟩
  · rw [upd_ne (ne_of_none e fa)]; exact S.le b u e
  · rw [List.map_cons, List.nodup_cons]
    refine ⟨fun hx => ?_, S.nd⟩
    obtain ⟨p, hp, e⟩ := List.mem_map.mp hx
    exact S.ne_cell h hp e
  · rcases List.mem_cons.mp hp with z | z
    · subst z; exact hc
    · exact (S.cell p z).mono (Same.refl _) (by rw [upd_ne (S.ne_cell h z)])
  · rcases List.mem_cons.mp hp with z | z
    · subst z; exact fa
    · exact S.out p z
theorem getElem?_set_cases {α : Type} {l : List α} {k j : Nat} {x y : α} (h : (l.set k x)[j]? = some y) : (j = k ∧ y = x) ∨ (j ≠ k ∧ l[j]? = some y) := by
  by_cases e : k = j
  · subst e
    have := (List.getElem?_eq_some_iff.mp h).1
    rw [List.getElem?_set_self (by simpa using this)] at h
    exact .inl ⟨rfl, (Option.some.inj h).symm⟩
  · rw [List.getElem?_set_ne e] at h
    exact .inr ⟨fun z => e z.symm, h⟩
theorem mem_set_cases {α : Type} {l : List α} {k : Nat} {x y : α} (h : y ∈ l.set k x) : y = x ∨ ∃ j, j ≠ k ∧ l[j]? = some y := by
  obtain ⟨j, e⟩ := List.getElem?_of_mem h
  rcases getElem?_set_cases e with ⟨_, h2⟩ | h
  · exact .inl h2
  · exact .inr ⟨j, h⟩
theorem ix_ne {M : Cells} (nd : (M.map Prod.fst).Nodup) {k j : Nat} {p q : Addr × Cell} (h : M[k]? = some p) (g : M[j]? = some q) (hne : j ≠ k) : q.1 ≠ p.1 := fun z => hne (nd_ix nd (a := by
    show (M.map Prod.fst)[j]? = some q.1
    rw [List.getElem?_map, g]; rfl) (b := by
    show (M.map Prod.fst)[k]? = some q.1
    rw [List.getElem?_map, h, z]; rfl))
/-- a cell changes -/
theorem Stt.setCell (S : Stt K F M δ σ H) {k : Nat} {a : Addr} {c c' : Cell} {o : HO} (hk : M[k]? = some (a, c)) (hc : CellIs K F (upd H a o) a c') : Stt K F (M.set k (a, c')) δ σ (upd H a o) := by
  have fa : F a = none := S.out _ (List.mem_of_getElem? hk)
  refine ⟨fun b u e => ?_, ?_, fun p hp => ?_, fun p hp => ?_, S.slot, S.dlen⟩
  · rw [upd_ne (ne_of_none e fa)]; exact S.le b u e
  · have e : (M.set k (a, c')).map Prod.fst = M.map Prod.fst := by
      rw [List.map_set]
      refine List.ext_getElem? fun i => ?_
      by_cases hi : k = i
      · subst hi
        have hl := (List.getElem?_eq_some_iff.mp hk).1
        rw [List.getElem?_set_self (by simpa using hl), List.getElem?_map, hk]; rfl
      · rw [List.getElem?_set_ne hi]
    rw [e]; exact S.nd
  · rcases mem_set_cases hp with rfl | ⟨j, hj, e⟩
    · exact hc
    · exact (S.cell p (List.mem_of_getElem? e)).mono (Same.refl _) (by rw [upd_ne (ix_ne S.nd hk e hj)])
  · rcases mem_set_cases hp with rfl | ⟨j, hj, e⟩
    · exact fa
    · exact S.out p (List.mem_of_getElem? e)
/-- a slot is set -/
theorem Stt.setSlot (S : Stt K F M δ σ H) {i : Nat} {v : V} {d : D} (r : Rep K F v d) : Stt K F M (δ.set i (some d)) (σ.set i (some v)) H := by
  refine ⟨S.le, S.nd, S.cell, S.out, fun j e h => ?_, by simp [S.dlen]⟩
  have hj : j < δ.length := by have := (List.getElem?_eq_some_iff.mp h).1; simpa using this
  rcases getElem?_set_cases h with ⟨h1, h2⟩ | ⟨h1, h2⟩
  · subst h1; cases h2
    exact ⟨v, by rw [List.getElem?_set_self (by rw [← S.dlen]; exact hj)], r⟩
  · obtain ⟨w, e1, e2⟩ := S.slot j e h2
    exact ⟨w, by rw [List.getElem?_set_ne (fun z => h1 z.symm)]; exact e1, e2⟩
/-- less is known of the slots -/
theorem Stt.slots {δ' : Slots} {σ' : L2.St} (S : Stt K F M δ σ H) (hl : δ'.length = σ'.length) (h : ∀ (i : Nat) (d : D), δ'[i]? = some (some d) → ∃ v, σ'[i]? = some (some v) ∧ Rep K F v d) : Stt K F M δ' σ' H :=
  ⟨S.le, S.nd, S.cell, S.out, h, hl⟩
theorem Stt.keep {F0 : Hp} {δ' : Slots} {σ' : L2.St} {M0 : Cells} {H0 : Hp} (S : Stt K F M δ σ H) (S0 : Stt K F0 M0 δ' σ' H0) (s : Same F0 F) : Stt K F M δ' σ' H :=
  S.slots S0.dlen fun i d e => let ⟨v, h1, h2⟩ := S0.slot i d e; ⟨v, h1, h2.up s⟩
/-- cells are forgotten (not frozen: they are no longer known at all) -/
theorem Stt.fewer (S : Stt K F M δ σ H) (h : M'.Sublist M) : Stt K F M' δ σ H :=
  ⟨S.le, S.nd.sublist (h.map _), fun p hp => S.cell p (h.subset hp), fun p hp => S.out p (h.subset hp), S.slot, S.dlen⟩
/-- a cell is frozen -/
theorem Stt.freeze (S : Stt K F M δ σ H) {k : Nat} {a : Addr} {ds : List D} (h : M[k]? = some (a, .lst ds)) :
    ∃ F', Same F F' ∧ Stt K F' (M.eraseIdx k) δ σ H ∧ Rep K F' (.ref a) (.lst ds) := by
  obtain ⟨vs, hH, fa, r⟩ := S.cellAt (List.mem_of_getElem? h)
  have s : Same F (upd F a (.lst vs)) := fun b u e => by rw [upd_ne (ne_of_none e fa)]; exact e
  have ne : ∀ p ∈ M.eraseIdx k, p.1 ≠ a := fun p hp => by
    obtain ⟨j, e⟩ := List.getElem?_of_mem hp
    rw [List.getElem?_eraseIdx] at e
    split at e
    · exact ix_ne S.nd h e (by omega)
    · exact ix_ne S.nd h e (by omega)
  have sub : ∀ p ∈ M.eraseIdx k, p ∈ M := fun p hp => (List.eraseIdx_sublist M k).subset hp
  refine ⟨upd F a (.lst vs), s, ⟨fun b u e => ?_, S.nd.sublist ((List.eraseIdx_sublist M k).map _), fun p hp => (S.cell p (sub p hp)).mono s rfl, fun p hp => ?_, fun i d e => ?_, S.dlen⟩, .lst (.of upd_same) (r.up s)⟩
  · by_cases hb : b = a
    · subst hb; rw [upd_same] at e; rw [hH]; exact e
    · rw [upd_ne hb] at e; exact S.le b u e
  · rw [upd_ne (ne p hp)]; exact S.out p (sub p hp)
  · obtain ⟨v, h1, h2⟩ := S.slot i d e
    exact ⟨v, h1, h2.up s⟩
end

/-- d is a list, frozen or a cell -/
def LV (M : Cells) (d : D) (ds : List D) : Prop := d = .lst ds ∨ ∃ (k : Nat) (a : Addr), d = .cel a ∧ M[k]? = some (a, .lst ds)
theorem LV.l {M : Cells} {ds : List D} : LV M (.lst ds) ds := .inl rfl
theorem LV.c {M : Cells} {a : Addr} {ds : List D} (k : Nat) (h : M[k]? = some (a, .lst ds)) : LV M (.cel a) ds := .inr ⟨k, a, rfl, h⟩
section
variable {K : PySem.W.Frag} {F : Hp} {M : Cells} {δ : Slots} {σ : L2.St} {H : Hp}
theorem Stt.readL (S : Stt K F M δ σ H) {v : V} {d : D} {ds : List D} (r : Rep K F v d) (h : LV M d ds) : ∃ a vs, v = .ref a ∧ SqL K H a vs ∧ Reps K F vs ds := by
  rcases h with rfl | ⟨k, a, rfl, h⟩
  · cases r with | lst a b => exact ⟨_, _, rfl, S.le.seq a, b⟩
  · cases r
    obtain ⟨vs, h1, h2, h3⟩ := S.cellAt (List.mem_of_getElem? h)
    exact ⟨_, vs, rfl, .of h1, h3⟩
theorem Stt.readT (S : Stt K F M δ σ H) {v : V} {ds : List D} (r : Rep K F v (.tup ds)) : ∃ a vs, v = .ref a ∧ SqT K H a vs ∧ Reps K F vs ds := by
  cases r with | tup a b => exact ⟨_, _, rfl, Same.tup S.le a, b⟩
end
end PW
/-! PW2 -/
namespace PW
open PySem L2 PyProof.Rows

structure Ex where
  cls : Addr
  fs : List (Str × D)
abbrev XP := Ex → Slots → Cells → Prop
def PX0 : XP := fun _ _ _ => False
def FsIs (K : PySem.W.Frag) (F : Hp) : List (Str × V) → List (Str × D) → Prop := Paired fun p q => p.1 = q.1 ∧ Rep K F p.2 q.2
def ExIs (K : PySem.W.Frag) (F H : Hp) (cls : Value) (d : Option Addr) (x : Ex) : Prop :=
  cls = .ref x.cls ∧ ((x.fs = [] ∧ d = none) ∨ ∃ dd vs, d = some dd ∧ H dd = some (.xd vs) ∧ FsIs K F vs x.fs)
def upX (K : PySem.W.Frag) (F : Hp) (P : XP) (cls : Value) (d : Option Addr) (σ' : L2.St) (H' : Hp) : Prop :=
  ∃ F' M' δ' x, Same F F' ∧ Stt K F' M' δ' σ' H' ∧ ExIs K F' H' cls d x ∧ P x δ' M'
def TakesP (X : Cx) (P : XP) (F : Hp) : Prop := ∃ W : WX, Takes X W ∧ ∀ cls d σ' H', upX X.K F P cls d σ' H' → W cls d σ' H'
theorem TakesP.up {X : Cx} {P : XP} {F F' : Hp} (t : TakesP X P F) (s : Same F F') : TakesP X P F' :=
  let ⟨W, h, k⟩ := t; ⟨W, h, fun cls d σ' H' ⟨F2, M2, δ2, x, s2, r⟩ => k cls d σ' H' ⟨F2, M2, δ2, x, s.trans s2, r⟩⟩
theorem TakesP.none {X : Cx} {F : Hp} : TakesP X PX0 F := ⟨fun _ _ _ _ => False, fun _ _ x => by
  obtain ⟨_, _, _, _, _, _, _, _, _, _, _, _, _, _, _, _, z⟩ := x
  exact z.elim, fun _ _ _ _ ⟨_, _, _, _, _, _, _, z⟩ => z.elim⟩
structure Go (X : Cx) (P : XP) (F : Hp) (M : Cells) (δ : Slots) (σ : L2.St) (H : Hp) : Prop where
  st : Stt X.K F M δ σ H
  tk : TakesP X P F

def upE (K : PySem.W.Frag) (F : Hp) (δ : Slots) (σ : L2.St) (Q : D → Cells → Prop) : VK := fun v H' => ∃ F' M' d, Same F F' ∧ Stt K F' M' δ σ H' ∧ Rep K F' v d ∧ Q d M'
def upT (K : PySem.W.Frag) (F : Hp) (δ : Slots) (σ : L2.St) (Q : Bool → Cells → Prop) : Bool → Hp → Prop := fun b H' => ∃ F' M', Same F F' ∧ Stt K F' M' δ σ H' ∧ Q b M'
def upA (K : PySem.W.Frag) (F : Hp) (δ : Slots) (σ : L2.St) (Q : List D → Cells → Prop) : List V → Hp → Prop := fun vs H' => ∃ F' M' ds, Same F F' ∧ Stt K F' M' δ σ H' ∧ Reps K F' vs ds ∧ Q ds M'
def tE (X : Cx) (e : Expr) : TE := fun σ H Q => ∀ pins s, Inv X pins σ H s → wpAny (model X.prog X.w) X.A (eval e X.env) (EP X pins σ Q) X.xe s
def tT (X : Cx) (e : Expr) : TT := fun σ H Q => ∀ pins s, Inv X pins σ H s → wpAny (model X.prog X.w) X.A (isTrue e X.env (eval e X.env)) (TP X pins σ Q) X.xe s
def tW (X : Cx) (e : Expr) : TT := fun σ H Q => ∀ whole pins s, Inv X pins σ H s → wpAny (model X.prog X.w) X.A (isTrue e X.env whole) (TP X pins σ Q) X.xe s
def tA (X : Cx) (es : List Expr) : TA := fun σ H Q => ∀ (pos : Pos) pins s, Inv X pins σ H s → wpAny (model X.prog X.w) X.A (spliced (backTo pos (starEach es X.env))) (AP X pins σ Q) X.xe s
theorem pe_sem {X : Cx} {e : Expr} : PE X e (tE X e) := ⟨fun pins s _ _ _ I h => h pins s I⟩
theorem pt_sem {X : Cx} {e : Expr} : PT X e (tT X e) := ⟨fun pins s _ _ _ I h => h pins s I⟩
theorem pw_sem {X : Cx} {e : Expr} : PW X e (tW X e) := ⟨fun w pins s _ _ _ I h => h w pins s I⟩
theorem pa_sem {X : Cx} {es : List Expr} : PA X es (tA X es) := ⟨fun pos pins s _ _ _ I h => h pos pins s I⟩
def WE (X : Cx) (P : XP) (e : Expr) (δ : Slots) (M : Cells) (Q : D → Cells → Prop) : Prop := ∀ σ H F, Go X P F M δ σ H → tE X e σ H (upE X.K F δ σ Q)
def WT (X : Cx) (P : XP) (e : Expr) (δ : Slots) (M : Cells) (Q : Bool → Cells → Prop) : Prop := ∀ σ H F, Go X P F M δ σ H → tT X e σ H (upT X.K F δ σ Q)
def WW (X : Cx) (P : XP) (e : Expr) (δ : Slots) (M : Cells) (Q : Bool → Cells → Prop) : Prop := ∀ σ H F, Go X P F M δ σ H → tW X e σ H (upT X.K F δ σ Q)
def WA (X : Cx) (P : XP) (es : List Expr) (δ : Slots) (M : Cells) (Q : List D → Cells → Prop) : Prop := ∀ σ H F, Go X P F M δ σ H → tA X es σ H (upA X.K F δ σ Q)

section
variable {X : Cx} {P : XP} {F : Hp} {M : Cells} {δ : Slots} {σ : L2.St} {H : Hp} {e a b c : Expr} {es : List Expr} {pos : Pos}
theorem EP.mono {pins : List (Addr × Obj)} {Q Q' : VK} (k : ∀ v H', Q v H' → Q' v H') {u : Value} {s : Shared} (h : EP X pins σ Q u s) : EP X pins σ Q' u s :=
  let ⟨v, H', I, r, q⟩ := h; ⟨v, H', I, r, k v H' q⟩
theorem tE.mono {Q Q' : VK} (h : tE X e σ H Q) (k : ∀ v H', Q v H' → Q' v H') : tE X e σ H Q' := fun pins s I => thn (h pins s I) fun _ _ q => EP.mono k q
theorem tT.mono {Q Q' : Bool → Hp → Prop} (h : tT X e σ H Q) (k : ∀ v H', Q v H' → Q' v H') : tT X e σ H Q' := fun pins s I => thn (h pins s I) fun _ _ ⟨H', I', q⟩ => ⟨H', I', k _ _ q⟩
theorem tW.mono {Q Q' : Bool → Hp → Prop} (h : tW X e σ H Q) (k : ∀ v H', Q v H' → Q' v H') : tW X e σ H Q' := fun w pins s I => thn (h w pins s I) fun _ _ ⟨H', I', q⟩ => ⟨H', I', k _ _ q⟩
theorem tA.mono {Q Q' : List V → Hp → Prop} (h : tA X es σ H Q) (k : ∀ v H', Q v H' → Q' v H') : tA X es σ H Q' := fun pos pins s I => thn (h pos pins s I) fun _ _ ⟨vs, H', I', r, q⟩ => ⟨vs, H', I', r, k _ _ q⟩
theorem WE.go {Q : D → Cells → Prop} (h : WE X P e δ M Q) (G : Go X P F M δ σ H) {Q' : VK} (k : ∀ v H' F' M' d, Same F F' → Go X P F' M' δ σ H' → Rep X.K F' v d → Q d M' → Q' v H') : tE X e σ H Q' :=
  (h σ H F G).mono fun v H' ⟨F', M', d, s, S, r, q⟩ => k v H' F' M' d s ⟨S, G.tk.up s⟩ r q
theorem WT.go {Q : Bool → Cells → Prop} (h : WT X P e δ M Q) (G : Go X P F M δ σ H) {Q' : Bool → Hp → Prop} (k : ∀ v H' F' M', Same F F' → Go X P F' M' δ σ H' → Q v M' → Q' v H') : tT X e σ H Q' :=
  (h σ H F G).mono fun v H' ⟨F', M', s, S, q⟩ => k v H' F' M' s ⟨S, G.tk.up s⟩ q
theorem WW.go {Q : Bool → Cells → Prop} (h : WW X P e δ M Q) (G : Go X P F M δ σ H) {Q' : Bool → Hp → Prop} (k : ∀ v H' F' M', Same F F' → Go X P F' M' δ σ H' → Q v M' → Q' v H') : tW X e σ H Q' :=
  (h σ H F G).mono fun v H' ⟨F', M', s, S, q⟩ => k v H' F' M' s ⟨S, G.tk.up s⟩ q
theorem WA.go {Q : List D → Cells → Prop} (h : WA X P es δ M Q) (G : Go X P F M δ σ H) {Q' : List V → Hp → Prop} (k : ∀ vs H' F' M' ds, Same F F' → Go X P F' M' δ σ H' → Reps X.K F' vs ds → Q ds M' → Q' vs H') : tA X es σ H Q' :=
  (h σ H F G).mono fun v H' ⟨F', M', d, s, S, r, q⟩ => k v H' F' M' d s ⟨S, G.tk.up s⟩ r q
theorem we_of {t : TE} {Q : D → Cells → Prop} (p : PE X e t) (h : ∀ σ H F, Go X P F M δ σ H → t σ H (upE X.K F δ σ Q)) : WE X P e δ M Q := fun σ H F G pins s I => p.run pins s σ H _ I (h σ H F G)
theorem wt_of {t : TT} {Q : Bool → Cells → Prop} (p : PT X e t) (h : ∀ σ H F, Go X P F M δ σ H → t σ H (upT X.K F δ σ Q)) : WT X P e δ M Q := fun σ H F G pins s I => p.run pins s σ H _ I (h σ H F G)
theorem ww_of {t : TT} {Q : Bool → Cells → Prop} (p : PW X e t) (h : ∀ σ H F, Go X P F M δ σ H → t σ H (upT X.K F δ σ Q)) : WW X P e δ M Q := fun σ H F G w pins s I => p.run w pins s σ H _ I (h σ H F G)
theorem wa_of {t : TA} {Q : List D → Cells → Prop} (p : PA X es t) (h : ∀ σ H F, Go X P F M δ σ H → t σ H (upA X.K F δ σ Q)) : WA X P es δ M Q := fun σ H F G pos pins s I => p.run pos pins s σ H _ I (h σ H F G)
theorem ret {K : PySem.W.Frag} {F0 F : Hp} {δ : Slots} {σ : L2.St} {H : Hp} {M : Cells} {Q : D → Cells → Prop} {v : V} {d : D} (S : Stt K F M δ σ H) (s : Same F0 F) (r : Rep K F v d) (q : Q d M) : upE K F0 δ σ Q v H := ⟨F, M, d, s, S, r, q⟩
theorem WE.imp {Q Q' : D → Cells → Prop} (h : WE X P e δ M Q) (k : ∀ d M', Q d M' → Q' d M') : WE X P e δ M Q' := fun σ H F G => h.go G fun v H' F' M' d s G' r q => ret G'.st s r (k d M' q)
theorem WT.imp {Q Q' : Bool → Cells → Prop} (h : WT X P e δ M Q) (k : ∀ d M', Q d M' → Q' d M') : WT X P e δ M Q' := fun σ H F G => h.go G fun v H' F' M' s G' q => ⟨F', M', s, G'.st, k _ _ q⟩
theorem we_name {i : Nat} {x : Str} {Q : D → Cells → Prop} {d : D} (hN : X.N[i]? = some x) (hv : Vis X.env.scope x) (hd : δ[i]? = some (some d)) (h : Q d M) (h1 : (x == ("__debug__" : Str)) = false := by decide) (h2 : (x == ("__classdict__" : Str)) = false := by decide) : WE X P (.Name x pos) δ M Q :=
  we_of (pe_var hN hv h1 h2) fun σ H F G => let ⟨v, h1, h2⟩ := G.st.slot i d hd; ⟨v, h1, ret G.st (Same.refl _) h2 h⟩
theorem we_int {i : Int} {j} {Q : D → Cells → Prop} (h : Q (.int i) M) : WE X P (.Constant (.int i) j pos) δ M Q := we_of pe_int fun σ H F G => ret G.st (Same.refl _) (.int i) h
theorem we_bl {i : Bool} {j} {Q : D → Cells → Prop} (h : Q (.bl i) M) : WE X P (.Constant (.bool i) j pos) δ M Q := we_of pe_bl fun σ H F G => ret G.st (Same.refl _) (.bl i) h
theorem we_non {j} {Q : D → Cells → Prop} (h : Q .non M) : WE X P (.Constant .none j pos) δ M Q := we_of pe_non fun σ H F G => ret G.st (Same.refl _) .non h
/-- a module's constant -/
theorem we_glob {x : Str} {d : D} {v : V} {u : Value} {Q : D → Cells → Prop} (hg : Gl X x) (hm : X.mg x = some u) (r : RelV v u) (rd : ∀ K F, Rep K F v d) (h : Q d M) (hd : (x == ("__debug__" : Str)) = false := by decide) : WE X P (.Name x pos) δ M Q :=
  we_of (pe_glob hg hm r hd) fun σ H F G => ret G.st (Same.refl _) (rd _ _) h
/-- a built-in class or function as a value -/
theorem we_bltn {x : Str} {v : V} {u : Value} {Q : D → Cells → Prop} (hg : Gl X x) (hm : X.mg x = none) (hv : bootBuiltins x = some u) (r : RelV v u) (h : Q (.raw v) M) (hn : x ≠ "__name__" := by decide) (hd : (x == ("__debug__" : Str)) = false := by decide) : WE X P (.Name x pos) δ M Q :=
  we_of (pe_bltn hg hm hv r hn hd) fun σ H F G => ret G.st (Same.refl _) (.raw v) h

abbrev RD2 := D → D → Cells → (D → Cells → Prop) → Prop
def Lift2 (X : Cx) (r : R2) (R : RD2) : Prop := ∀ {F0 F : Hp} {M : Cells} {δ : Slots} {σ : L2.St} {H : Hp} {x y : V} {d e : D} {Q : D → Cells → Prop} {Q' : VK}, (∀ v H', upE X.K F0 δ σ Q v H' → Q' v H') → Same F0 F → Stt X.K F M δ σ H → Rep X.K F x d → Rep X.K F y e → R d e M Q → r x y H Q'
abbrev RD1 := D → Cells → (D → Cells → Prop) → Prop
def Lift1 (X : Cx) (r : V → Hp → VK → Prop) (R : RD1) : Prop := ∀ {F0 F : Hp} {M : Cells} {δ : Slots} {σ : L2.St} {H : Hp} {x : V} {d : D} {Q : D → Cells → Prop} {Q' : VK}, (∀ v H', upE X.K F0 δ σ Q v H' → Q' v H') → Same F0 F → Stt X.K F M δ σ H → Rep X.K F x d → R d M Q → r x H Q'
abbrev RDA := List D → Cells → (D → Cells → Prop) → Prop
def LiftA (X : Cx) (r : List V → Hp → VK → Prop) (R : RDA) : Prop := ∀ {F0 F : Hp} {M : Cells} {δ : Slots} {σ : L2.St} {H : Hp} {xs : List V} {ds : List D} {Q : D → Cells → Prop} {Q' : VK}, (∀ v H', upE X.K F0 δ σ Q v H' → Q' v H') → Same F0 F → Stt X.K F M δ σ H → Reps X.K F xs ds → R ds M Q → r xs H Q'
theorem bind2 {ea eb : Expr} {R : RD2} {r : R2} {Q : D → Cells → Prop} {Q' : VK} (k : ∀ v H', upE X.K F δ σ Q v H' → Q' v H') (L : Lift2 X r R) (h : WE X P ea δ M fun d M1 => WE X P eb δ M1 fun e M2 => R d e M2 Q) (G : Go X P F M δ σ H) : tOp r (tE X ea) (tE X eb) σ H Q' :=
  h.go G fun v H1 F1 M1 d s1 G1 r1 q1 => q1.go G1 fun u H2 F2 M2 e s2 G2 r2 q2 => L k (s1.trans s2) G2.st (r1.up s2) r2 q2
theorem we_op {op : Operator} {r : R2} {R : RD2} {Q : D → Cells → Prop} (ho : OpR X (binaryOp op) r) (L : Lift2 X r R) (h : WE X P a δ M fun d M1 => WE X P b δ M1 fun e M2 => R d e M2 Q) : WE X P (.BinOp a op b pos) δ M Q :=
  we_of (pe_op ho pe_sem pe_sem) fun σ H F G => bind2 (fun _ _ z => z) L h G
theorem we_un {op : UnaryOp} {r : V → Hp → VK → Prop} {R : RD1} {Q : D → Cells → Prop} (ho : UnR X (unaryOp op) r) (L : Lift1 X r R) (h : WE X P a δ M fun d M1 => R d M1 Q) : WE X P (.UnaryOp op a pos) δ M Q :=
  we_of (pe_un ho pe_sem) fun σ H F G => h.go G fun v H1 F1 M1 d s1 G1 r1 q1 => L (fun _ _ z => z) s1 G1.st r1 q1
theorem we_cmp {op : CmpOp} {r : R2} {R : RD2} {Q : D → Cells → Prop} (ho : OpR X (compareOp op) r) (L : Lift2 X r R) (hm : behindInMarks op b = false) (h : WE X P a δ M fun d M1 => WE X P b δ M1 fun e M2 => R d e M2 Q) : WE X P (.Compare a [op] [b] pos) δ M Q :=
  we_of (pe_cmpR ho pe_sem pe_sem hm) fun σ H F G => bind2 (fun _ _ z => z) L h G
/-- what comes is a bool -/
def onB (Q : Bool → Cells → Prop) : D → Cells → Prop := fun d M => ∃ k, d = .bl k ∧ Q k M
theorem onB_up {K : PySem.W.Frag} {F : Hp} {δ : Slots} {σ : L2.St} {H : Hp} {Q : Bool → Cells → Prop} {v : V} (h : upE K F δ σ (onB Q) v H) : ∃ k, v = .bl k ∧ upT K F δ σ Q k H := by
  obtain ⟨F', M', d, s, S, r, k, rfl, q⟩ := h
  cases r
  exact ⟨k, rfl, F', M', s, S, q⟩
theorem wt_cmp {op : CmpOp} {r : R2} {R : RD2} {Q : Bool → Cells → Prop} (ho : OpR X (compareOp op) r) (L : Lift2 X r R) (hm : behindInMarks op b = false) (h : WE X P a δ M fun d M1 => WE X P b δ M1 fun e M2 => R d e M2 (onB Q)) : WT X P (.Compare a [op] [b] pos) δ M Q :=
  wt_of (pt_cmpR ho pe_sem pe_sem hm) fun σ H F G => bind2 (fun _ _ z => onB_up z) L h G
theorem bind3 {ea eb ec : Expr} {R R' : RD2} {r r' : R2} {Q : D → Cells → Prop} {Q' : VK} (k : ∀ v H', upE X.K F δ σ Q v H' → Q' v H') (L : Lift2 X r R) (L' : Lift2 X r' R')
    (h : WE X P ea δ M fun d M1 => WE X P eb δ M1 fun e M2 => R d e M2 fun z M3 => ∃ b, z = .bl b ∧ if b = true then WE X P ec δ M3 fun f M4 => R' e f M4 Q else Q (.bl false) M3) (G : Go X P F M δ σ H) : tChain r r' (tE X ea) (tE X eb) (tE X ec) σ H Q' :=
  h.go G fun v H1 F1 M1 d s1 G1 r1 q1 => q1.go G1 fun u H2 F2 M2 e s2 G2 r2 q2 => L (fun v3 H3 z => by
    obtain ⟨F3, M3, d3, s3, S3, r3, b, rfl, q3⟩ := z
    cases r3
    refine ⟨b, rfl, ?_⟩
    have s03 : Same F F3 := (s1.trans s2).trans s3
    cases b with
    | false => rw [if_neg (by decide)] at q3 ⊢; exact k _ _ ⟨F3, M3, _, s03, S3, .bl _, q3⟩
    | true =>
      rw [if_pos rfl] at q3 ⊢
      exact q3.go ⟨S3, G2.tk.up s3⟩ fun w H4 F4 M4 f s4 G4 r4 q4 => L' k (s03.trans s4) G4.st (r2.up (s3.trans s4)) r4 q4) (Same.refl F2) G2.st (r1.up s2) r2 q2
theorem we_chain {op op' : CmpOp} {R R' : RD2} {r r' : R2} {Q : D → Cells → Prop} (ho : OpR X (compareOp op) r) (ho' : OpR X (compareOp op') r') (L : Lift2 X r R) (L' : Lift2 X r' R')
    (h : WE X P a δ M fun d M1 => WE X P b δ M1 fun e M2 => R d e M2 fun z M3 => ∃ k, z = .bl k ∧ if k = true then WE X P c δ M3 fun f M4 => R' e f M4 Q else Q (.bl false) M3)
    (hm : lastMarks [op, op'] [b, c] = false := by with_unfolding_all rfl) : WE X P (.Compare a [op, op'] [b, c] pos) δ M Q :=
  we_of (pe_chain ho ho' pe_sem pe_sem pe_sem hm) fun σ H F G => bind3 (fun _ _ z => z) L L' h G
theorem wt_chain {op op' : CmpOp} {R R' : RD2} {r r' : R2} {Q : Bool → Cells → Prop} (ho : OpR X (compareOp op) r) (ho' : OpR X (compareOp op') r') (L : Lift2 X r R) (L' : Lift2 X r' R')
    (h : WE X P a δ M fun d M1 => WE X P b δ M1 fun e M2 => R d e M2 fun z M3 => ∃ k, z = .bl k ∧ if k = true then WE X P c δ M3 fun f M4 => R' e f M4 (onB Q) else onB Q (.bl false) M3)
    (hm : lastMarks [op, op'] [b, c] = false := by with_unfolding_all rfl) : WT X P (.Compare a [op, op'] [b, c] pos) δ M Q :=
  wt_of (pt_chain ho ho' pe_sem pe_sem pe_sem hm) fun σ H F G => bind3 (fun _ _ z => onB_up z) L L' h G

theorem wt_val {Q : Bool → Cells → Prop} (h : WE X P e δ M (onB Q)) (he : ∀ whole, isTrue e X.env whole = (do let v ← whole; standAt e.pos; holding [v] (truthy v)) := by intro _; rfl) : WT X P e δ M Q :=
  wt_of (pt_val pe_sem he) fun σ H F G => h.go G fun v H' F' M' d s G' r q => onB_up (ret G'.st s r q)
theorem wt_not {Q : Bool → Cells → Prop} (h : WT X P a δ M fun k M' => Q (!k) M') : WT X P (.UnaryOp .Not a pos) δ M Q :=
  wt_of (pt_not pt_sem) fun σ H F G => h.go G fun v H' F' M' s G' q => ⟨F', M', s, G'.st, q⟩
theorem ww_wt {Q : Bool → Cells → Prop} (h : WW X P e δ M Q) : WT X P e δ M Q := wt_of pw_sem.pt h
theorem ww_and1 {Q : Bool → Cells → Prop} (h : WT X P a δ M Q) : WW X P (.BoolOp .And [a] pos) δ M Q := ww_of (pw_and1 pt_sem) h
theorem ww_or1 {Q : Bool → Cells → Prop} (h : WT X P a δ M Q) : WW X P (.BoolOp .Or [a] pos) δ M Q := ww_of (pw_or1 pt_sem) h
theorem ww_and {Q : Bool → Cells → Prop} (h : WT X P a δ M fun k M' => if k = true then WW X P (.BoolOp .And (b :: es) pos) δ M' Q else Q false M') : WW X P (.BoolOp .And (a :: b :: es) pos) δ M Q :=
  ww_of (pw_and pt_sem pw_sem) fun σ H F G => h.go G fun v H' F' M' s G' q => by
    cases v with
    | true => rw [if_pos rfl] at q ⊢; exact q.go G' fun _ _ F2 M2 s2 G2 q2 => ⟨F2, M2, s.trans s2, G2.st, q2⟩
    | false => rw [if_neg (by decide)] at q ⊢; exact ⟨F', M', s, G'.st, q⟩
theorem ww_or {Q : Bool → Cells → Prop} (h : WT X P a δ M fun k M' => if k = true then Q true M' else WW X P (.BoolOp .Or (b :: es) pos) δ M' Q) : WW X P (.BoolOp .Or (a :: b :: es) pos) δ M Q :=
  ww_of (pw_or pt_sem pw_sem) fun σ H F G => h.go G fun v H' F' M' s G' q => by
    cases v with
    | true => rw [if_pos rfl] at q ⊢; exact ⟨F', M', s, G'.st, q⟩
    | false => rw [if_neg (by decide)] at q ⊢; exact q.go G' fun _ _ F2 M2 s2 G2 q2 => ⟨F2, M2, s.trans s2, G2.st, q2⟩
theorem we_one {op} {Q : D → Cells → Prop} (h : WE X P a δ M Q) : WE X P (.BoolOp op [a] pos) δ M Q := we_of (pe_one pe_sem) h
theorem we_and {Q : D → Cells → Prop} (h : WE X P a δ M fun d M' => ∃ k, d = .bl k ∧ if k = true then WE X P (.BoolOp .And (b :: es) pos) δ M' Q else Q (.bl false) M') : WE X P (.BoolOp .And (a :: b :: es) pos) δ M Q :=
  we_of (pe_and pe_sem pe_sem) fun σ H F G => h.go G fun v H' F' M' d s G' r q => by
    obtain ⟨k, rfl, q⟩ := q
    cases r
    refine ⟨k, rfl, ?_⟩
    cases k with
    | true => rw [if_pos rfl] at q ⊢; exact q.go G' fun _ _ F2 M2 _ s2 G2 r2 q2 => ret G2.st (s.trans s2) r2 q2
    | false => rw [if_neg (by decide)] at q ⊢; exact ret G'.st s (.bl _) q
theorem we_not {Q : D → Cells → Prop} (h : WE X P a δ M fun d M' => ∃ k, d = .bl k ∧ Q (.bl (!k)) M') : WE X P (.UnaryOp .Not a pos) δ M Q :=
  we_of (pe_not pe_sem) fun σ H F G => h.go G fun v H' F' M' d s G' r q => by
    obtain ⟨k, rfl, q⟩ := q
    cases r
    exact ⟨k, rfl, ret G'.st s (.bl _) q⟩
theorem we_if {Q : D → Cells → Prop} (h : WT X P c δ M fun k M' => if k = true then WE X P a δ M' Q else WE X P b δ M' Q) : WE X P (.IfExp c a b pos) δ M Q :=
  we_of (pe_ifExp pt_sem pe_sem pe_sem) fun σ H F G => h.go G fun v H' F' M' s G' q => by
    cases v with
    | true => rw [if_pos rfl] at q ⊢; exact q.go G' fun _ _ F2 M2 _ s2 G2 r2 q2 => ret G2.st (s.trans s2) r2 q2
    | false => rw [if_neg (by decide)] at q ⊢; exact q.go G' fun _ _ F2 M2 _ s2 G2 r2 q2 => ret G2.st (s.trans s2) r2 q2

theorem wa_nil {Q : List D → Cells → Prop} (h : Q [] M) : WA X P [] δ M Q := wa_of pa_nil fun σ H F G => ⟨F, M, [], Same.refl _, G.st, .nil, h⟩
theorem wa_cons {Q : List D → Cells → Prop} (h : WE X P e δ M fun d M1 => WA X P es δ M1 fun ds M2 => Q (d :: ds) M2) (hs : starEach (e :: es) X.env = (false, eval e X.env) :: starEach es X.env := by rfl) : WA X P (e :: es) δ M Q :=
  wa_of (pa_cons pe_sem pa_sem hs) fun σ H F G => h.go G fun v H1 F1 M1 d s1 G1 r1 q1 => q1.go G1 fun vs H2 F2 M2 ds s2 G2 r2 q2 => ⟨F2, M2, d :: ds, s1.trans s2, G2.st, .cons (r1.up s2) r2, q2⟩
theorem we_tup {x1} {Q : D → Cells → Prop} (h : WA X P es δ M fun ds M1 => ds.length ≤ sizeLine ∧ Q (.tup ds) M1) : WE X P (.Tuple es x1 pos) δ M Q :=
  we_of (pe_tup pa_sem) fun σ H F G => h.go G fun vs H1 F1 M1 ds s1 G1 r1 q1 => ⟨by rw [r1.length]; exact q1.1, fun p hp => by
    obtain ⟨S, s⟩ := G1.st.froz (o := .tup vs) hp
    exact ret S (s1.trans s) (.tup (.of upd_same) (r1.up s)) q1.2⟩
/-- [..], frozen -/
theorem we_lst {Q : D → Cells → Prop} (h : WA X P es δ M fun ds M1 => ds.length ≤ sizeLine ∧ Q (.lst ds) M1) : WE X P (.List es pos) δ M Q :=
  we_of (pe_lst pa_sem) fun σ H F G => h.go G fun vs H1 F1 M1 ds s1 G1 r1 q1 => ⟨by rw [r1.length]; exact q1.1, fun p hp => by
    obtain ⟨S, s⟩ := G1.st.froz (o := .lst vs) hp
    exact ret S (s1.trans s) (.lst (.of upd_same) (r1.up s)) q1.2⟩
theorem Stt.newL {K : PySem.W.Frag} {F : Hp} {M : Cells} {δ : Slots} {σ : L2.St} {H : Hp} (S : Stt K F M δ σ H) {p : Addr} {vs : List V} {ds : List D} (hp : H p = none) (r : Reps K F vs ds) : Stt K F ((p, .lst ds) :: M) δ σ (upd H p (.lst vs)) :=
  S.newCell hp ⟨vs, upd_same, r⟩
/-- [..], a cell -/
theorem we_lstC {Q : D → Cells → Prop} (h : WA X P es δ M fun ds M1 => ds.length ≤ sizeLine ∧ ∀ p, Q (.cel p) ((p, .lst ds) :: M1)) : WE X P (.List es pos) δ M Q :=
  we_of (pe_lst pa_sem) fun σ H F G => h.go G fun vs H1 F1 M1 ds s1 G1 r1 q1 => ⟨by rw [r1.length]; exact q1.1, fun p hp => ret (G1.st.newL hp r1) s1 (.cel p) (q1.2 p)⟩
/-- a cell is frozen -/
theorem we_froz (k : Nat) {Q : D → Cells → Prop} (h : WE X P e δ M fun d M1 => ∃ (p : Addr) (ds : List D), d = .cel p ∧ M1[k]? = some (p, .lst ds) ∧ Q (.lst ds) (M1.eraseIdx k)) : WE X P e δ M Q := fun σ H F G =>
  h.go G fun v H1 F1 M1 d s1 G1 r1 q1 => by
    obtain ⟨p, ds, rfl, hk, q⟩ := q1
    cases r1
    obtain ⟨F2, s2, S2, r2⟩ := G1.st.freeze hk
    exact ret S2 (s1.trans s2) r2 q
end
end PW
/-! PW3 -/
namespace PW
open PySem L2 PyProof.Rows

section
variable {X : Cx} {P : XP} {F : Hp} {M : Cells} {δ : Slots} {σ : L2.St} {H : Hp} {e a b c o : Expr} {es : List Expr} {pos apos p p2 : Pos}

theorem lift_I {C : Int → Int → Prop} {g : Int → Int → Int} : Lift2 X (rI C fun i j => .int (g i j)) (fun d e M Q => ∃ i j, d = .int i ∧ e = .int j ∧ C i j ∧ Q (.int (g i j)) M) := fun k s S r1 r2 h => by
  obtain ⟨i, j, rfl, rfl, hc, q⟩ := h
  cases r1; cases r2
  exact ⟨i, j, rfl, rfl, hc, k _ _ (ret S s (.int _) q)⟩
theorem lift_I0 {g : Int → Int → Int} : Lift2 X (rI0 fun i j => .int (g i j)) (fun d e M Q => ∃ i j, d = .int i ∧ e = .int j ∧ Q (.int (g i j)) M) := fun k s S r1 r2 h => by
  obtain ⟨i, j, rfl, rfl, q⟩ := h
  cases r1; cases r2
  exact ⟨i, j, rfl, rfl, k _ _ (ret S s (.int _) q)⟩
theorem lift_B0 {g : Int → Int → Bool} : Lift2 X (rI0 fun i j => .bl (g i j)) (fun d e M Q => ∃ i j, d = .int i ∧ e = .int j ∧ Q (.bl (g i j)) M) := fun k s S r1 r2 h => by
  obtain ⟨i, j, rfl, rfl, q⟩ := h
  cases r1; cases r2
  exact ⟨i, j, rfl, rfl, k _ _ (ret S s (.bl _) q)⟩
theorem Lift2.or {r r' : R2} {R R' : RD2} (h : Lift2 X r R) (h' : Lift2 X r' R') : Lift2 X (fun x y H Q => r x y H Q ∨ r' x y H Q) (fun d e M Q => R d e M Q ∨ R' d e M Q) := fun k s S r1 r2 q => q.elim (fun q => .inl (h k s S r1 r2 q)) fun q => .inr (h' k s S r1 r2 q)
theorem LiftA.or {r r' : List V → Hp → VK → Prop} {R R' : RDA} (h : LiftA X r R) (h' : LiftA X r' R') : LiftA X (fun x H Q => r x H Q ∨ r' x H Q) (fun d M Q => R d M Q ∨ R' d M Q) := fun k s S r1 q => q.elim (fun q => .inl (h k s S r1 q)) fun q => .inr (h' k s S r1 q)

def rCatQ (K : PySem.W.Frag) : R2 := fun x y H Q => ∃ l b xs zs, x = .ref l ∧ y = .ref b ∧ SqL K H l xs ∧ SqL K H b zs ∧ xs.length + zs.length ≤ sizeLine ∧ ∀ p, H p = none → Q (.ref p) (upd H p (.lst (xs ++ zs)))
theorem op_catQ : OpR X (binaryOp .Add) (rCatQ X.K) := by
  intro pins s σ H x y v u Q I rx ry h
  obtain ⟨l, b, xs, zs, rfl, rfl, hH, hB, hz, q⟩ := h
  cases rx
  cases ry
  obtain ⟨its, r, ⟨o, n, e, c, d0, d⟩, z⟩ := I.list hH
  obtain ⟨its2, r2, ⟨o2, n2, e2, c2, d02, d2⟩, z2⟩ := I.list hB
  have l1 := r.length
  have l2 := r2.length
  obtain ⟨oc, od, dt, sl⟩ := o
  obtain ⟨oc2, od2, dt2, sl2⟩ := o2
  simp only at c d0 d c2 d02 d2
  subst c d0 d c2 d02 d2
  have ea : its.toArray ++ its2.toArray = (its ++ its2).toArray := by simp
  refine concat_meets ⟨_, e, rfl⟩ ⟨_, e2, rfl⟩ noFill_list_add seq_list_add PySem.F.slot_list_add PySem.F.entry_list_add (PySem.F.args_list_add_2 _ _) (list_addW l b its.toArray its2.toArray n n2 none none sl sl2 (by rw [List.size_toArray, List.size_toArray, ← l1, ← l2]; exact hz)) ⟨e, e2, ?_⟩
  rw [ea]
  exact ⟨.ref _, _, I.lnew (t' := s.toks) (r.append r2) (by rw [List.length_append]; omega), rfl, q _ I.fresh⟩
theorem lift_cat : Lift2 X (rCatQ X.K) (fun d e M Q => ∃ ds es, LV M d ds ∧ LV M e es ∧ ds.length + es.length ≤ sizeLine ∧ Q (.lst (ds ++ es)) M) := fun k s S r1 r2 h => by
  obtain ⟨ds, es, h1, h2, hl, q⟩ := h
  obtain ⟨l, xs, rfl, q1, z1⟩ := S.readL r1 h1
  obtain ⟨l2, ys, rfl, q2, z2⟩ := S.readL r2 h2
  refine ⟨l, l2, xs, ys, rfl, rfl, q1, q2, by rw [z1.length, z2.length]; exact hl, fun p hp => k _ _ ?_⟩
  obtain ⟨S', s'⟩ := S.froz (o := .lst (xs ++ ys)) hp
  exact ret S' (s.trans s') (.lst (.of upd_same) ((z1.append z2).up s')) q
theorem lift_addS : Lift2 X (fun x y H Q => ∃ i j, x = .str i ∧ y = .str j ∧ i.length + j.length ≤ sizeLine ∧ Q (.str (i ++ j)) H) (fun d e M Q => ∃ i j, d = .str i ∧ e = .str j ∧ i.length + j.length ≤ sizeLine ∧ Q (.str (i ++ j)) M) := fun k s S r1 r2 h => by
  obtain ⟨i, j, rfl, rfl, hl, q⟩ := h
  cases r1; cases r2
  exact ⟨i, j, rfl, rfl, hl, k _ _ (ret S s (.str _) q)⟩
def RAdd : RD2 := fun d e M Q => (∃ i j, d = .int i ∧ e = .int j ∧ Q (.int (i + j)) M) ∨ (∃ i j, d = .str i ∧ e = .str j ∧ i.length + j.length ≤ sizeLine ∧ Q (.str (i ++ j)) M) ∨ (∃ ds es, LV M d ds ∧ LV M e es ∧ ds.length + es.length ≤ sizeLine ∧ Q (.lst (ds ++ es)) M)
theorem we_add {Q : D → Cells → Prop} (h : WE X P a δ M fun d M1 => WE X P b δ M1 fun e M2 => RAdd d e M2 Q) : WE X P (.BinOp a .Add b pos) δ M Q := we_op (op_add.or (op_add_str.or op_catQ)) (lift_I0.or (lift_addS.or lift_cat)) h
theorem we_sub {Q : D → Cells → Prop} (h : WE X P a δ M fun d M1 => WE X P b δ M1 fun e M2 => ∃ i j, d = .int i ∧ e = .int j ∧ Q (.int (i - j)) M2) : WE X P (.BinOp a .Sub b pos) δ M Q := we_op op_sub lift_I0 h
theorem op_mulQ : OpR X (binaryOp .Mult) (rI IntMulOk fun i j => .int (i * j)) := opI fun _ _ _ _ _ _ _ hc q => mul_int q hc
theorem we_mul {Q : D → Cells → Prop} (h : WE X P a δ M fun d M1 => WE X P b δ M1 fun e M2 => ∃ i j, d = .int i ∧ e = .int j ∧ IntMulOk i j ∧ Q (.int (i * j)) M2) : WE X P (.BinOp a .Mult b pos) δ M Q := we_op op_mulQ lift_I h
theorem we_fdiv {Q : D → Cells → Prop} (h : WE X P a δ M fun d M1 => WE X P b δ M1 fun e M2 => ∃ i j, d = .int i ∧ e = .int j ∧ CDivW i j ∧ Q (.int (i / j)) M2) : WE X P (.BinOp a .FloorDiv b pos) δ M Q := we_op op_fdivW lift_I h
theorem we_mod {Q : D → Cells → Prop} (h : WE X P a δ M fun d M1 => WE X P b δ M1 fun e M2 => ∃ i j, d = .int i ∧ e = .int j ∧ 0 < j ∧ Q (.int (i % j)) M2) : WE X P (.BinOp a .Mod b pos) δ M Q := we_op op_mod lift_I h
theorem we_modN {Q : D → Cells → Prop} (h : WE X P a δ M fun d M1 => WE X P b δ M1 fun e M2 => ∃ i j, d = .int i ∧ e = .int j ∧ j ≠ 0 ∧ Q (.int (i.fmod j)) M2) : WE X P (.BinOp a .Mod b pos) δ M Q := we_op op_modN lift_I h
def CPw (i j : Int) : Prop := 0 ≤ j ∧ (Builtin.Int.intBits i : Int) * j ≤ 2 ^ 27
theorem op_powQ : OpR X (binaryOp .Pow) (rI CPw fun i j => .int (i ^ j.toNat)) := opI fun _ _ _ _ _ _ _ hc q => pow_int hc.1 hc.2 q
theorem we_pow {Q : D → Cells → Prop} (h : WE X P a δ M fun d M1 => WE X P b δ M1 fun e M2 => ∃ i j, d = .int i ∧ e = .int j ∧ CPw i j ∧ Q (.int (i ^ j.toNat)) M2) : WE X P (.BinOp a .Pow b pos) δ M Q := we_op op_powQ lift_I h
theorem we_neg {Q : D → Cells → Prop} (h : WE X P a δ M fun d M1 => ∃ i, d = .int i ∧ Q (.int (-i)) M1) : WE X P (.UnaryOp .USub a pos) δ M Q := we_un (R := fun d M1 Q => ∃ i, d = .int i ∧ Q (.int (-i)) M1) un_neg (fun k s S r1 h => by
  obtain ⟨i, rfl, q⟩ := h
  cases r1
  exact ⟨i, rfl, k _ _ (ret S s (.int _) q)⟩) h

theorem we_lt {Q : D → Cells → Prop} (h : WE X P a δ M fun d M1 => WE X P b δ M1 fun e M2 => ∃ i j, d = .int i ∧ e = .int j ∧ Q (.bl (decide (i < j))) M2) : WE X P (.Compare a [.Lt] [b] pos) δ M Q := we_cmp op_lt lift_B0 (nomark _) h
theorem wt_lt {Q : Bool → Cells → Prop} (h : WE X P a δ M fun d M1 => WE X P b δ M1 fun e M2 => ∃ i j, d = .int i ∧ e = .int j ∧ Q (decide (i < j)) M2) : WT X P (.Compare a [.Lt] [b] pos) δ M Q := wt_cmp op_lt lift_B0 (nomark _) (h.imp fun d M1 q => q.imp fun e M2 ⟨i, j, h1, h2, q⟩ => ⟨i, j, h1, h2, _, rfl, q⟩)
theorem wt_gt {Q : Bool → Cells → Prop} (h : WE X P a δ M fun d M1 => WE X P b δ M1 fun e M2 => ∃ i j, d = .int i ∧ e = .int j ∧ Q (decide (j < i)) M2) : WT X P (.Compare a [.Gt] [b] pos) δ M Q := wt_cmp op_gt lift_B0 (nomark _) (h.imp fun d M1 q => q.imp fun e M2 ⟨i, j, h1, h2, q⟩ => ⟨i, j, h1, h2, _, rfl, q⟩)
mutual
def py : D → PyData
  | .non => .none | .bl b => .bool b | .int i => .int i | .str x => .str x | .tup ds => .tuple (pys ds) | .lst ds => .list (pys ds) | .cel _ => .none | .raw _ => .none | .exc _ _ _ => .none
def pys : List D → List PyData
  | [] => []
  | d :: ds => py d :: pys ds
end
mutual
/-- no cell, nothing raw within -/
def okD : D → Bool
  | .tup ds => okDs ds | .lst ds => okDs ds | .cel _ => false | .raw _ => false | .exc _ _ _ => false | _ => true
def okDs : List D → Bool
  | [] => true
  | d :: ds => okD d && okDs ds
end
mutual
theorem Rep.dp {K : PySem.W.Frag} {F H : Hp} (s : Same F H) : ∀ (d : D) (v : V), Rep K F v d → okD d = true → Dp K H v (py d)
  | .non, _, h, _ => by cases h; exact .non
  | .bl _, _, h, _ => by cases h; exact .bl _
  | .int _, _, h, _ => by cases h; exact .int _
  | .str _, _, h, _ => by cases h; exact .str _
  | .tup ds, _, h, k => by cases h with | tup a b => exact .tup (Same.tup s a) (Reps.dp s ds _ b k)
  | .lst ds, _, h, k => by cases h with | lst a b => exact .lst (s.seq a) (Reps.dp s ds _ b k)
  | .cel _, _, _, k => by cases k
  | .raw _, _, _, k => by cases k
  | .exc _ _ _, _, _, k => by cases k
theorem Reps.dp {K : PySem.W.Frag} {F H : Hp} (s : Same F H) : ∀ (ds : List D) (vs : List V), Reps K F vs ds → okDs ds = true → DpAll K H vs (pys ds)
  | [], _, h, _ => by cases h; exact .nil
  | d :: ds, _, h, k => by
    cases h with
    | cons a b =>
      have k' : (okD d && okDs ds) = true := k
      rw [Bool.and_eq_true] at k'
      exact .cons (Rep.dp s d _ a k'.1) (Reps.dp s ds _ b k'.2)
end
/-- d is data, frozen or a cell of such -/
def PV (M : Cells) (d : D) (q : PyData) : Prop := (okD d = true ∧ q = py d) ∨ ∃ (k : Nat) (a : Addr) (ds : List D), d = .cel a ∧ M[k]? = some (a, .lst ds) ∧ okDs ds = true ∧ q = .list (pys ds)
theorem PV.fz {M : Cells} {d : D} (h : okD d = true) : PV M d (py d) := .inl ⟨h, rfl⟩
theorem PV.cl {M : Cells} {a : Addr} {ds : List D} (k : Nat) (h : M[k]? = some (a, .lst ds)) (g : okDs ds = true) : PV M (.cel a) (.list (pys ds)) := .inr ⟨k, a, ds, rfl, h, g, rfl⟩
theorem Stt.readP {K : PySem.W.Frag} (S : Stt K F M δ σ H) {v : V} {d : D} {q : PyData} (r : Rep K F v d) (h : PV M d q) : Dp K H v q := by
  rcases h with ⟨h, rfl⟩ | ⟨k, a, ds, rfl, h1, h2, rfl⟩
  · exact Rep.dp S.le d v r h
  · cases r
    obtain ⟨vs, e1, e2, e3⟩ := S.cellAt (List.mem_of_getElem? h1)
    exact .lst (.of e1) (Reps.dp S.le ds vs e3 h2)
theorem lift_eqD : Lift2 X (rEqD X.K) (fun d e M Q => ∃ p q, PV M d p ∧ PV M e q ∧ SeqAt.shaped p = true ∧ SeqAt.shaped q = true ∧ Q (.bl (PyData.eqv p q)) M) := fun k s S r1 r2 h => by
  obtain ⟨p, q, h1, h2, s1, s2, z⟩ := h
  exact ⟨p, q, S.readP r1 h1, S.readP r2 h2, s1, s2, k _ _ (ret S s (.bl _) z)⟩
theorem lift_neD : Lift2 X (rNeD X.K) (fun d e M Q => ∃ p q, PV M d p ∧ PV M e q ∧ SeqAt.shaped p = true ∧ SeqAt.shaped q = true ∧ Q (.bl (!PyData.eqv p q)) M) := fun k s S r1 r2 h => by
  obtain ⟨p, q, h1, h2, s1, s2, z⟩ := h
  exact ⟨p, q, S.readP r1 h1, S.readP r2 h2, s1, s2, k _ _ (ret S s (.bl _) z)⟩
def dOf : V → D
  | .non => .non | .bl b => .bl b | .int i => .int i | .str x => .str x | v => .raw v
theorem scal_rep {K : PySem.W.Frag} {v : V} {d : D} (x : V) (r : Rep K F v d) (h : d = dOf x) : v = x := by
  subst h
  cases x <;> (cases r; rfl)
/-- == of scalars: both ints, both texts, both bools, one of them None -/
def RScal (neg : Bool) : RD2 := fun d e M Q => ∃ x y : V, d = dOf x ∧ e = dOf y ∧ scal x y = true ∧ Q (.bl (if neg then !decide (x = y) else decide (x = y))) M
theorem lift_eqS : Lift2 X rEq (RScal false) := fun k s S r1 r2 h => by
  obtain ⟨x, y, h1, h2, h3, q⟩ := h
  rw [scal_rep x r1 h1, scal_rep y r2 h2]
  exact ⟨h3, k _ _ (ret S s (.bl _) q)⟩
theorem lift_neS : Lift2 X rNe (RScal true) := fun k s S r1 r2 h => by
  obtain ⟨x, y, h1, h2, h3, q⟩ := h
  rw [scal_rep x r1 h1, scal_rep y r2 h2]
  exact ⟨h3, k _ _ (ret S s (.bl _) q)⟩
/-- is None, is not None -/
def isNonD : D → Bool | .non => true | _ => false
theorem lift_isN : Lift2 X (fun x y H Q => y = .non ∧ Q (.bl (decide (x = .non))) H) (fun d e M Q => e = .non ∧ (∀ v, d ≠ .raw v) ∧ Q (.bl (isNonD d)) M) := fun k s S r1 r2 h => by
  obtain ⟨rfl, hr, q⟩ := h
  cases r2
  refine ⟨rfl, k _ _ ?_⟩
  cases r1 <;> first
    | exact ret S s (.bl _) q
    | exact absurd rfl (hr _)
theorem lift_notN : Lift2 X (fun x y H Q => y = .non ∧ Q (.bl (!decide (x = .non))) H) (fun d e M Q => e = .non ∧ (∀ v, d ≠ .raw v) ∧ Q (.bl (!isNonD d)) M) := fun k s S r1 r2 h => by
  obtain ⟨rfl, hr, q⟩ := h
  cases r2
  refine ⟨rfl, k _ _ ?_⟩
  cases r1 <;> first
    | exact ret S s (.bl _) q
    | exact absurd rfl (hr _)
theorem wt_isN {j pos'} {Q : Bool → Cells → Prop} (h : WE X P a δ M fun d M1 => (∀ v, d ≠ .raw v) ∧ Q (isNonD d) M1) : WT X P (.Compare a [.Is] [.Constant .none j pos'] pos) δ M Q := wt_cmp op_isN lift_isN (nomark _) (h.imp fun d M1 q => we_non ⟨rfl, q.1, _, rfl, q.2⟩)
theorem wt_notN {j pos'} {Q : Bool → Cells → Prop} (h : WE X P a δ M fun d M1 => (∀ v, d ≠ .raw v) ∧ Q (!isNonD d) M1) : WT X P (.Compare a [.IsNot] [.Constant .none j pos'] pos) δ M Q := wt_cmp op_notN lift_notN (nomark _) (h.imp fun d M1 q => we_non ⟨rfl, q.1, _, rfl, q.2⟩)

theorem reps_at {K : PySem.W.Frag} {vs : List V} {ds : List D} {i : Int} {d : D} (r : Reps K F vs ds) (h : atI ds i = some d) : ∃ v, atI vs i = some v ∧ Rep K F v d := by
  unfold atI at h ⊢
  rw [r.length]
  cases e : ixN ds.length i with
  | none => rw [e] at h; cases h
  | some j =>
    rw [e] at h
    exact r.get h
theorem lift_ixL : Lift2 X (rIxL X.K) (fun d e M Q => ∃ ds i z, LV M d ds ∧ e = .int i ∧ atI ds i = some z ∧ Q z M) := fun k s S r1 r2 h => by
  obtain ⟨ds, i, z, h1, rfl, h2, q⟩ := h
  cases r2
  obtain ⟨l, xs, rfl, q1, z1⟩ := S.readL r1 h1
  obtain ⟨v, e1, e2⟩ := reps_at z1 h2
  exact ⟨l, xs, i, v, rfl, rfl, q1, e1, k _ _ (ret S s e2 q)⟩
theorem lift_ixT : Lift2 X (rIxT X.K) (fun d e M Q => ∃ ds i z, d = .tup ds ∧ e = .int i ∧ atI ds i = some z ∧ Q z M) := fun k s S r1 r2 h => by
  obtain ⟨ds, i, z, rfl, rfl, h2, q⟩ := h
  cases r2
  obtain ⟨l, xs, rfl, q1, z1⟩ := S.readT r1
  obtain ⟨v, e1, e2⟩ := reps_at z1 h2
  exact ⟨l, xs, i, v, rfl, rfl, q1, e1, k _ _ (ret S s e2 q)⟩
theorem lift_ixS : Lift2 X rIxS (fun d e M Q => ∃ z i c, d = .str z ∧ e = .int i ∧ z.length ≤ sizeLine ∧ atI z.cps.toList i = some c ∧ Q (.str ⟨#[c]⟩) M) := fun k s S r1 r2 h => by
  obtain ⟨z, i, c, rfl, rfl, h1, h2, q⟩ := h
  cases r1; cases r2
  exact ⟨z, i, c, rfl, rfl, h1, h2, k _ _ (ret S s (.str _) q)⟩
def cutD (xs : List D) (lo hi : Option Int) : List D := (xs.drop (HT.sIx xs.length 0 lo)).take (HT.sIx xs.length xs.length hi - HT.sIx xs.length 0 lo)
theorem reps_cut {K : PySem.W.Frag} {vs : List V} {ds : List D} (r : Reps K F vs ds) (lo hi : Option Int) : Reps K F (cutV vs lo hi) (cutD ds lo hi) := by
  unfold cutV cutD
  rw [r.length]
  exact (r.drop _).take _
def tO (X : Cx) (e : Option Expr) : L2.TO := fun σ H Q => ∀ pins s, Inv X pins σ H s → wpAny (model X.prog X.w) X.A (evalPart e X.env) (fun u s' => ∃ o H', Inv X pins σ H' s' ∧ IsPart u o ∧ Q o H') X.xe s
theorem po_sem {X : Cx} {e : Option Expr} : PO X e (tO X e) := ⟨fun pins s _ _ _ I h => h pins s I⟩
def upO (K : PySem.W.Frag) (F : Hp) (δ : Slots) (σ : L2.St) (Q : Option Int → Cells → Prop) : Option Int → Hp → Prop := fun b H' => ∃ F' M', Same F F' ∧ Stt K F' M' δ σ H' ∧ Q b M'
def WO (X : Cx) (P : XP) (e : Option Expr) (δ : Slots) (M : Cells) (Q : Option Int → Cells → Prop) : Prop := ∀ σ H F, Go X P F M δ σ H → tO X e σ H (upO X.K F δ σ Q)
theorem wo_none {Q : Option Int → Cells → Prop} (h : Q none M) : WO X P none δ M Q := fun σ H F G pins s I => po_none.run pins s σ H _ I ⟨F, M, Same.refl _, G.st, h⟩
theorem wo_some {Q : Option Int → Cells → Prop} (h : WE X P e δ M fun d M1 => ∃ i, d = .int i ∧ Q (some i) M1) : WO X P (some e) δ M Q := fun σ H F G pins s I => (po_some pe_sem).run pins s σ H _ I (h.go G fun v H1 F1 M1 d s1 G1 r1 q1 => by
  obtain ⟨i, rfl, q⟩ := q1
  cases r1
  exact ⟨i, rfl, F1, M1, s1, G1.st, q⟩)
theorem tO.mono {e : Option Expr} {Q Q' : Option Int → Hp → Prop} (h : tO X e σ H Q) (k : ∀ v H', Q v H' → Q' v H') : tO X e σ H Q' := fun pins s I => thn (h pins s I) fun _ _ ⟨o, H', I', p, q⟩ => ⟨o, H', I', p, k _ _ q⟩
theorem lift_catC : Lift2 X (rCatQ X.K) (fun d e M Q => ∃ ds es, LV M d ds ∧ LV M e es ∧ ds.length + es.length ≤ sizeLine ∧ ∀ p, Q (.cel p) ((p, .lst (ds ++ es)) :: M)) := fun k s S r1 r2 h => by
  obtain ⟨ds, es, h1, h2, hl, q⟩ := h
  obtain ⟨l, xs, rfl, q1, z1⟩ := S.readL r1 h1
  obtain ⟨l2, ys, rfl, q2, z2⟩ := S.readL r2 h2
  exact ⟨l, l2, xs, ys, rfl, rfl, q1, q2, by rw [z1.length, z2.length]; exact hl, fun p hp => k _ _ (ret (S.newL hp (z1.append z2)) s (.cel p) (q p))⟩
theorem we_addC {Q : D → Cells → Prop} (h : WE X P a δ M fun d M1 => WE X P b δ M1 fun e M2 => ∃ ds es, LV M2 d ds ∧ LV M2 e es ∧ ds.length + es.length ≤ sizeLine ∧ ∀ p, Q (.cel p) ((p, .lst (ds ++ es)) :: M2)) : WE X P (.BinOp a .Add b pos) δ M Q := we_op op_catQ lift_catC h
theorem we_callB {x : Str} {id : String} {r : List V → Hp → VK → Prop} {R : RDA} {Q : D → Cells → Prop} (hc : CallR X (.builtin id) r) (L : LiftA X r R) (hg : Gl X x) (hm : X.mg x = none) (hv : bootBuiltins x = some (.builtin id)) (h : WA X P (e :: es) δ M fun ds M1 => R ds M1 Q) (hn : x ≠ "__name__" := by decide) (hdb : (x == ("__debug__" : Str)) = false := by decide)
    (he : starEach (e :: es) X.env = (false, eval e X.env) :: starEach es X.env := by rfl) (hpl : (backTo pos (starEach es X.env)).any (·.1) = false := by rfl) : WE X P (.Call (.Name x p) (e :: es) [] pos) δ M Q :=
  we_of (pe_callB hc hg hm hv pa_sem hn hdb he hpl) fun σ H F G => h.go G fun vs H1 F1 M1 ds s1 G1 r1 q1 => L (fun _ _ z => z) s1 G1.st r1 q1
theorem we_callTy {x : Str} {T : String} {r : List V → Hp → VK → Prop} {R : RDA} {Q : D → Cells → Prop} (hc : CallR X (.type T) r) (L : LiftA X r R) (hg : Gl X x) (hm : X.mg x = none) (hv : bootBuiltins x = some (.type T)) (h : WA X P (e :: es) δ M fun ds M1 => R ds M1 Q) (hn : x ≠ "__name__" := by decide) (hdb : (x == ("__debug__" : Str)) = false := by decide)
    (he : starEach (e :: es) X.env = (false, eval e X.env) :: starEach es X.env := by rfl) (hpl : (backTo pos (starEach es X.env)).any (·.1) = false := by rfl) : WE X P (.Call (.Name x p) (e :: es) [] pos) δ M Q :=
  we_of (pe_callTy hc hg hm hv pa_sem hn hdb he hpl) fun σ H F G => h.go G fun vs H1 F1 M1 ds s1 G1 r1 q1 => L (fun _ _ z => z) s1 G1.st r1 q1
theorem Reps.one {K : PySem.W.Frag} {vs : List V} {d : D} (h : Reps K F vs [d]) : ∃ v, vs = [v] ∧ Rep K F v d := by
  cases h with | cons a b => cases b; exact ⟨_, rfl, a⟩
theorem Reps.two {K : PySem.W.Frag} {vs : List V} {d e : D} (h : Reps K F vs [d, e]) : ∃ v w, vs = [v, w] ∧ Rep K F v d ∧ Rep K F w e := by
  cases h with | cons a b => cases b with | cons b c => cases c; exact ⟨_, _, rfl, a, b⟩
def RLen : RDA := fun ds M Q => (∃ d xs, ds = [d] ∧ LV M d xs ∧ Q (.int xs.length) M) ∨ (∃ xs, ds = [.tup xs] ∧ Q (.int xs.length) M) ∨ (∃ z, ds = [.str z] ∧ z.length ≤ sizeLine ∧ Q (.int z.length) M)
theorem lift_len : LiftA X (fun xs H Q => ∃ x n, xs = [x] ∧ LenV X.K x H n ∧ Q (.int n) H) RLen := fun k s S r h => by
  rcases h with ⟨d, xs, rfl, hl, q⟩ | ⟨xs, rfl, q⟩ | ⟨z, rfl, hl, q⟩
  · obtain ⟨v, rfl, r1⟩ := r.one
    obtain ⟨a, vs, rfl, e1, e2⟩ := S.readL r1 hl
    exact ⟨_, vs.length, rfl, .inl ⟨vs, e1, rfl⟩, k _ _ (ret S s (by rw [e2.length]; exact .int _) q)⟩
  · obtain ⟨v, rfl, r1⟩ := r.one
    obtain ⟨a, vs, rfl, e1, e2⟩ := S.readT r1
    exact ⟨_, vs.length, rfl, .inr ⟨vs, e1, rfl⟩, k _ _ (ret S s (by rw [e2.length]; exact .int _) q)⟩
  · obtain ⟨v, rfl, r1⟩ := r.one
    cases r1
    exact ⟨_, z.length, rfl, ⟨hl, rfl⟩, k _ _ (ret S s (.int _) q)⟩
theorem we_len {Q : D → Cells → Prop} (hg : Gl X "len") (hm : X.mg "len" = none) (h : WA X P [e] δ M fun ds M1 => RLen ds M1 Q) (he : starEach [e] X.env = (false, eval e X.env) :: starEach [] X.env := by rfl) (hpl : (backTo pos (starEach [] X.env)).any (·.1) = false := by rfl) : WE X P (.Call (.Name "len" p) [e] [] pos) δ M Q :=
  we_callB call_len lift_len hg hm (by decide +kernel) h (by decide) (by decide) he hpl
theorem we_abs {Q : D → Cells → Prop} (hg : Gl X "abs") (hm : X.mg "abs" = none) (h : WA X P [e] δ M fun ds M1 => ∃ i, ds = [.int i] ∧ Q (.int (if i < 0 then -i else i)) M1) (he : starEach [e] X.env = (false, eval e X.env) :: starEach [] X.env := by rfl) (hpl : (backTo pos (starEach [] X.env)).any (·.1) = false := by rfl) : WE X P (.Call (.Name "abs" p) [e] [] pos) δ M Q :=
  we_callB (R := fun ds M1 Q => ∃ i, ds = [.int i] ∧ Q (.int (if i < 0 then -i else i)) M1) call_abs (fun k s S r h => by
    obtain ⟨i, rfl, q⟩ := h
    obtain ⟨v, rfl, r1⟩ := r.one
    cases r1
    exact ⟨i, rfl, k _ _ (ret S s (.int _) q)⟩) hg hm (by decide +kernel) h (by decide) (by decide) he hpl
theorem we_max2 {Q : D → Cells → Prop} (hc : X.calm = true) (hg : Gl X "max") (hm : X.mg "max" = none) (h : WA X P [a, b] δ M fun ds M1 => ∃ i j, ds = [.int i, .int j] ∧ Q (.int (if j > i then j else i)) M1) (he : starEach [a, b] X.env = (false, eval a X.env) :: starEach [b] X.env := by rfl) (hpl : (backTo pos (starEach [b] X.env)).any (·.1) = false := by rfl) : WE X P (.Call (.Name "max" p) [a, b] [] pos) δ M Q :=
  we_callB (R := fun ds M1 Q => ∃ i j, ds = [.int i, .int j] ∧ Q (.int (if j > i then j else i)) M1) (call_max2 hc) (fun k s S r h => by
    obtain ⟨i, j, rfl, q⟩ := h
    obtain ⟨v, w, rfl, r1, r2⟩ := r.two
    cases r1; cases r2
    exact ⟨i, j, rfl, k _ _ (ret S s (.int _) q)⟩) hg hm (by decide +kernel) h (by decide) (by decide) he hpl
theorem we_min2 {Q : D → Cells → Prop} (hc : X.calm = true) (hg : Gl X "min") (hm : X.mg "min" = none) (h : WA X P [a, b] δ M fun ds M1 => ∃ i j, ds = [.int i, .int j] ∧ Q (.int (if j < i then j else i)) M1) (he : starEach [a, b] X.env = (false, eval a X.env) :: starEach [b] X.env := by rfl) (hpl : (backTo pos (starEach [b] X.env)).any (·.1) = false := by rfl) : WE X P (.Call (.Name "min" p) [a, b] [] pos) δ M Q :=
  we_callB (R := fun ds M1 Q => ∃ i j, ds = [.int i, .int j] ∧ Q (.int (if j < i then j else i)) M1) (call_min2 hc) (fun k s S r h => by
    obtain ⟨i, j, rfl, q⟩ := h
    obtain ⟨v, w, rfl, r1, r2⟩ := r.two
    cases r1; cases r2
    exact ⟨i, j, rfl, k _ _ (ret S s (.int _) q)⟩) hg hm (by decide +kernel) h (by decide) (by decide) he hpl
theorem we_all {Q : D → Cells → Prop} (hc : X.calm = true) (hg : Gl X "all") (hm : X.mg "all" = none) (h : WA X P [a] δ M fun ds M1 => ∃ (d : D) (bs : List Bool), ds = [d] ∧ LV M1 d (bs.map D.bl) ∧ Q (.bl (bs.all id)) M1) (he : starEach [a] X.env = (false, eval a X.env) :: starEach [] X.env := by rfl) (hpl : (backTo pos (starEach [] X.env)).any (·.1) = false := by rfl) : WE X P (.Call (.Name "all" p) [a] [] pos) δ M Q :=
  we_callB (R := fun ds M1 Q => ∃ (d : D) (bs : List Bool), ds = [d] ∧ LV M1 d (bs.map D.bl) ∧ Q (.bl (bs.all id)) M1) (cr_all hc) (fun k s S r h => by
    obtain ⟨d, bs, rfl, hl, q⟩ := h
    obtain ⟨v, rfl, r1⟩ := r.one
    obtain ⟨a, vs, rfl, e1, e2⟩ := S.readL r1 hl
    rw [e2.bls_inv] at e1
    exact ⟨a, bs, rfl, e1, k _ _ (ret S s (.bl _) q)⟩) hg hm (by decide +kernel) h (by decide) (by decide) he hpl
theorem we_sum {Q : D → Cells → Prop} (hc : X.calm = true) (hg : Gl X "sum") (hm : X.mg "sum" = none) (h : WA X P [a] δ M fun ds M1 => ∃ (d : D) (ns : List Int), ds = [d] ∧ LV M1 d (ns.map D.int) ∧ Q (.int ns.sum) M1) (he : starEach [a] X.env = (false, eval a X.env) :: starEach [] X.env := by rfl) (hpl : (backTo pos (starEach [] X.env)).any (·.1) = false := by rfl) : WE X P (.Call (.Name "sum" p) [a] [] pos) δ M Q :=
  we_callB (R := fun ds M1 Q => ∃ (d : D) (ns : List Int), ds = [d] ∧ LV M1 d (ns.map D.int) ∧ Q (.int ns.sum) M1) (cr_sum hc) (fun k s S r h => by
    obtain ⟨d, bs, rfl, hl, q⟩ := h
    obtain ⟨v, rfl, r1⟩ := r.one
    obtain ⟨a, vs, rfl, e1, e2⟩ := S.readL r1 hl
    rw [e2.ints_inv] at e1
    exact ⟨a, bs, rfl, e1, k _ _ (ret S s (.int _) q)⟩) hg hm (by decide +kernel) h (by decide) (by decide) he hpl
theorem Stt.readLT {K : PySem.W.Frag} (S : Stt K F M δ σ H) {v : V} {d : D} {xs : List D} (r : Rep K F v d) (h : LV M d xs ∨ d = .tup xs) : ∃ a vs, v = .ref a ∧ (SqL K H a vs ∨ SqT K H a vs) ∧ Reps K F vs xs := by
  rcases h with hl | rfl
  · obtain ⟨a, vs, rfl, e1, e2⟩ := S.readL r hl; exact ⟨a, vs, rfl, .inl e1, e2⟩
  · obtain ⟨a, vs, rfl, e1, e2⟩ := S.readT r; exact ⟨a, vs, rfl, .inr e1, e2⟩
/-- list(xs), frozen -/
theorem we_list {Q : D → Cells → Prop} (hg : Gl X "list") (hm : X.mg "list" = none) (h : WA X P [a] δ M fun ds M1 => ∃ d xs, ds = [d] ∧ (LV M1 d xs ∨ d = .tup xs) ∧ Q (.lst xs) M1) (he : starEach [a] X.env = (false, eval a X.env) :: starEach [] X.env := by rfl) (hpl : (backTo pos (starEach [] X.env)).any (·.1) = false := by rfl) : WE X P (.Call (.Name "list" p) [a] [] pos) δ M Q :=
  we_callTy (R := fun ds M1 Q => ∃ d xs, ds = [d] ∧ (LV M1 d xs ∨ d = .tup xs) ∧ Q (.lst xs) M1) call_list_of (fun k s S r h => by
    obtain ⟨d, xs, rfl, hl, q⟩ := h
    obtain ⟨v, rfl, r1⟩ := r.one
    obtain ⟨a, vs, rfl, e1, e2⟩ := S.readLT r1 hl
    refine ⟨a, vs, rfl, e1, fun l hl => k _ _ ?_⟩
    obtain ⟨S', s'⟩ := S.froz (o := .lst vs) hl
    exact ret S' (s.trans s') (.lst (.of upd_same) (e2.up s')) q) hg hm (by decide +kernel) h (by decide) (by decide) he hpl
def isT (t n : String) : Bool := t == n || (t == "bool" && n == "int")
def TyA (M : Cells) (d : D) (t : String) : Prop := match d with
  | .non => t = "NoneType" | .bl _ => t = "bool" | .int _ => t = "int" | .str _ => t = "str" | .tup _ => t = "tuple" | .lst _ => t = "list" | .cel a => t = "list" ∧ ∃ (k : Nat) (ds : List D), M[k]? = some (a, .lst ds) | .raw _ => False | .exc _ _ _ => False
theorem kitT {K : PySem.W.Frag} {t n : String} (ht : t ∈ ["NoneType", "bool", "int", "str", "tuple", "list"]) (hn : n ∈ ["bool", "int", "str", "tuple", "list", "dict"]) : PySem.W.kitOne K (.type t) (.type n) = some (isT t n) := by
  simp only [List.mem_cons, List.not_mem_nil, or_false] at ht hn
  rcases ht with rfl | rfl | rfl | rfl | rfl | rfl <;> rcases hn with rfl | rfl | rfl | rfl | rfl | rfl <;> exact kit_ty (by decide +kernel)
theorem Stt.ty {K : PySem.W.Frag} (S : Stt K F M δ σ H) {v : V} {d : D} {t : String} (r : Rep K F v d) (h : TyA M d t) : TyX K H v (.type t) ∧ t ∈ ["NoneType", "bool", "int", "str", "tuple", "list"] := by
  cases d with
  | non => cases r; cases (show t = _ from h); exact ⟨.base .non, by simp⟩
  | bl b => cases r; cases (show t = _ from h); exact ⟨.base (.bl b), by simp⟩
  | int i => cases r; cases (show t = _ from h); exact ⟨.base (.int i), by simp⟩
  | str x => cases r; cases (show t = _ from h); exact ⟨.base (.str x), by simp⟩
  | tup ds =>
    cases (show t = _ from h)
    obtain ⟨a, vs, rfl, e1, e2⟩ := S.readT r
    refine ⟨?_, by simp⟩
    rcases e1 with (e1 | ⟨o, e1⟩) | ⟨o, its, n, e1, e3, _⟩
    · exact .base (.tup e1)
    · exact .fTuple e1
    · exact .kTuple e1 e3
  | lst ds =>
    cases (show t = _ from h)
    obtain ⟨a, vs, rfl, e1, e2⟩ := S.readL r LV.l
    refine ⟨?_, by simp⟩
    rcases e1 with (e1 | ⟨o, e1⟩) | ⟨o, its, n, e1, e3, _⟩
    · exact .base (.lst e1)
    · exact .base (.frz e1)
    · exact .kList e1 e3
  | cel a =>
    obtain ⟨rfl, k, ds, hk⟩ := (show t = "list" ∧ ∃ (k : Nat) (ds : List D), M[k]? = some (a, .lst ds) from h)
    obtain ⟨a, vs, rfl, e1, e2⟩ := S.readL r (LV.c k hk)
    refine ⟨?_, by simp⟩
    rcases e1 with (e1 | ⟨o, e1⟩) | ⟨o, its, n, e1, e3, _⟩
    · exact .base (.lst e1)
    · exact .base (.frz e1)
    · exact .kList e1 e3
  | raw v => exact (show False from h).elim
  | exc _ _ _ => exact (show False from h).elim
def rIsiTQ (K : PySem.W.Frag) : List V → Hp → VK → Prop := fun xs H Q => ∃ (x : V) (tp : Addr) (cs : List V) (t : Value) (us : List Value) (b : Bool), xs = [x, .ref tp] ∧ SqT K H tp cs ∧ Paired ClsV cs us ∧ TyX K H x t ∧ PySem.W.kitAny K t us = some b ∧ Q (.bl b) H
theorem call_isiTQ : CallR X (.builtin "isinstance") (rIsiTQ X.K) := by
  intro pins s σ H xs us Q I r h
  obtain ⟨x, tp, cs, t, ws, b, rfl, hT, k, ty, e, q⟩ := h
  obtain ⟨u1, u2, rfl, r1, r2⟩ := vals2 r
  cases (show u2 = Value.ref tp from r2)
  obtain ⟨P, Z, p, hx⟩ := kit_of I r1 ty
  obtain ⟨its, rv, ⟨o, h1, h2, n, h3⟩, _⟩ := I.tuple hT
  have e3 := ClsV.all k rv
  subst e3
  obtain ⟨oc, od, dt, sl⟩ := o
  simp only at h2 h3
  subst h2 h3
  exact PySem.W.kia_tup Z I.kIn p h1 e hx fun tk => ⟨.bl b, H, I.tok tk, rfl, q⟩
def RIsi : RDA := fun ds M Q => ∃ d t n, ds = [d, .raw (.ty n)] ∧ TyA M d t ∧ n ∈ ["bool", "int", "str", "tuple", "list", "dict"] ∧ Q (.bl (isT t n)) M
theorem lift_isi : LiftA X (rIsi X.K) RIsi := fun k s S r h => by
  obtain ⟨d, t, n, rfl, ht, hn, q⟩ := h
  obtain ⟨v, w, rfl, r1, r2⟩ := r.two
  cases r2
  obtain ⟨ty, hm⟩ := S.ty r1 ht
  exact ⟨v, .ty n, .type t, .type n, isT t n, rfl, .ty n, ty, kitT hm hn, k _ _ (ret S s (.bl _) q)⟩
def RIsiT : RDA := fun ds M Q => ∃ d t n m, ds = [d, .tup [.raw (.ty n), .raw (.ty m)]] ∧ TyA M d t ∧ n ∈ ["bool", "int", "str", "tuple", "list", "dict"] ∧ m ∈ ["bool", "int", "str", "tuple", "list", "dict"] ∧ Q (.bl (isT t n || isT t m)) M
theorem lift_isiT : LiftA X (rIsiTQ X.K) RIsiT := fun k s S r h => by
  obtain ⟨d, t, n, m, rfl, ht, hn, hm, q⟩ := h
  obtain ⟨v, w, rfl, r1, r2⟩ := r.two
  obtain ⟨a, vs, rfl, e1, e2⟩ := S.readT r2
  obtain ⟨y, z, rfl, q1, q2⟩ := e2.two
  cases q1; cases q2
  obtain ⟨ty, hmm⟩ := S.ty r1 ht
  refine ⟨v, a, [.ty n, .ty m], .type t, [.type n, .type m], isT t n || isT t m, rfl, e1, .cons (.ty n) (.cons (.ty m) .nil), ty, ?_, k _ _ (ret S s (.bl _) q)⟩
  refine kitAny_cons (kitT hmm hn) (fun e => ?_) (fun e => by rw [e]; rfl)
  rw [e, Bool.false_or]
  exact kitAny_cons (kitT hmm hm) (fun e => by rw [e]; exact kitAny_nil) (fun e => e)
theorem we_isi {Q : D → Cells → Prop} (hg : Gl X "isinstance") (hm : X.mg "isinstance" = none) (h : WA X P [a, b] δ M fun ds M1 => RIsi ds M1 Q ∨ RIsiT ds M1 Q) (he : starEach [a, b] X.env = (false, eval a X.env) :: starEach [b] X.env := by rfl) (hpl : (backTo pos (starEach [b] X.env)).any (·.1) = false := by rfl) : WE X P (.Call (.Name "isinstance" p) [a, b] [] pos) δ M Q :=
  we_callB (call_isi.or call_isiTQ) (lift_isi.or lift_isiT) hg hm (by decide +kernel) h (by decide) (by decide) he hpl
end
end PW
/-! PW4 -/
namespace PW
open PySem L2 PyProof.Rows

structure Nice (X : Cx) : Prop where
  calm : X.calm = true
  nd : X.N.Nodup
  own : PassesOwn (model X.prog X.w) X.A X.env X.xe

structure En where
  nx : Slots → Cells → Prop
  rt : D → Cells → Prop
  bk : Slots → Cells → Prop := fun _ _ => False
  ct : Slots → Cells → Prop := fun _ _ => False
def upN (K : PySem.W.Frag) (F : Hp) (Q : Slots → Cells → Prop) : L2.St → Hp → Prop := fun σ' H' => ∃ F' M' δ', Same F F' ∧ Stt K F' M' δ' σ' H' ∧ Q δ' M'
def upR (K : PySem.W.Frag) (F : Hp) (Q : D → Cells → Prop) : VK := fun v H' => ∃ F' M' δ' σ' d, Same F F' ∧ Stt K F' M' δ' σ' H' ∧ Rep K F' v d ∧ Q d M'
def upEn (K : PySem.W.Frag) (F : Hp) (E : En) : L2.Ends := ⟨upN K F E.nx, upR K F E.rt, upN K F E.bk, upN K F E.ct⟩
theorem upN.base {K : PySem.W.Frag} {F F' : Hp} (s : Same F F') {Q : Slots → Cells → Prop} {σ : L2.St} {H : Hp} (h : upN K F' Q σ H) : upN K F Q σ H := let ⟨F2, M2, d2, s2, r⟩ := h; ⟨F2, M2, d2, s.trans s2, r⟩
theorem upR.base {K : PySem.W.Frag} {F F' : Hp} (s : Same F F') {Q : D → Cells → Prop} {v : V} {H : Hp} (h : upR K F' Q v H) : upR K F Q v H := let ⟨F2, M2, d2, σ2, e2, s2, r⟩ := h; ⟨F2, M2, d2, σ2, e2, s.trans s2, r⟩
def tS (X : Cx) (st : Stmt) : TS := fun D σ H => ∀ pins s, Inv X pins σ H s → wpAny (model X.prog X.w) X.A (exec st X.env) (SP X pins D) X.xe s
def tB (X : Cx) (b : List Stmt) : TS := fun D σ H => ∀ pins s, Inv X pins σ H s → wpAny (model X.prog X.w) X.A (execs b X.env) (SP X pins D) X.xe s
def tG (X : Cx) (tg : Expr) : TG := fun v σ H Q => ∀ pins s u, Inv X pins σ H s → RelV v u → wpAny (model X.prog X.w) X.A (assign tg X.env u) (fun _ s' => ∃ σ' H', Inv X pins σ' H' s' ∧ Q σ' H') X.xe s
theorem ps_sem {X : Cx} {st : Stmt} : PS X st (tS X st) := ⟨fun pins s _ _ _ I h => h pins s I⟩
theorem pss_sem {X : Cx} {st : List Stmt} : PSs X st (tB X st) := ⟨fun pins s _ _ _ I h => h pins s I⟩
theorem pg_sem {X : Cx} {tg : Expr} : PG X tg (tG X tg) := ⟨fun pins s _ _ _ u _ I r h => h pins s u I r⟩
def WS (X : Cx) (P : XP) (st : Stmt) (δ : Slots) (M : Cells) (E : En) : Prop := ∀ σ H F, Go X P F M δ σ H → tS X st (upEn X.K F E) σ H
def WB (X : Cx) (P : XP) (b : List Stmt) (δ : Slots) (M : Cells) (E : En) : Prop := ∀ σ H F, Go X P F M δ σ H → tB X b (upEn X.K F E) σ H
def WG (X : Cx) (P : XP) (tg : Expr) (d : D) (δ : Slots) (M : Cells) (Q : Slots → Cells → Prop) : Prop := ∀ σ H F v, Go X P F M δ σ H → Rep X.K F v d → tG X tg v σ H (upN X.K F Q)
structure EnLe (D D' : L2.Ends) : Prop where
  nx : ∀ σ H, D.nx σ H → D'.nx σ H
  rt : ∀ v H, D.rt v H → D'.rt v H
  bk : ∀ σ H, D.bk σ H → D'.bk σ H
  ct : ∀ σ H, D.ct σ H → D'.ct σ H
theorem SP.mono {X : Cx} {pins : List (Addr × Obj)} {D D' : L2.Ends} (l : EnLe D D') {f : Flow} {s : Shared} (h : SP X pins D f s) : SP X pins D' f s := by
  cases f with
  | next => obtain ⟨σ', H', I, q⟩ := h; exact ⟨σ', H', I, l.nx _ _ q⟩
  | brk => obtain ⟨σ', H', I, q⟩ := h; exact ⟨σ', H', I, l.bk _ _ q⟩
  | cont => obtain ⟨σ', H', I, q⟩ := h; exact ⟨σ', H', I, l.ct _ _ q⟩
  | ret u => obtain ⟨v, σ', H', I, r, q⟩ := h; exact ⟨v, σ', H', I, r, l.rt _ _ q⟩
section
variable {X : Cx} {P : XP} {F : Hp} {M : Cells} {δ : Slots} {σ : L2.St} {H : Hp} {e a b c o : Expr} {es : List Expr} {pos apos p p2 : Pos} {st : Stmt} {rest body orelse : List Stmt} {E : En}
theorem tS.mono {D D' : L2.Ends} (h : tS X st D σ H) (l : EnLe D D') : tS X st D' σ H := fun pins s I => thn (h pins s I) fun _ _ q => SP.mono l q
theorem tB.mono {D D' : L2.Ends} (h : tB X body D σ H) (l : EnLe D D') : tB X body D' σ H := fun pins s I => thn (h pins s I) fun _ _ q => SP.mono l q
theorem tG.mono {tg : Expr} {v : V} {Q Q' : L2.St → Hp → Prop} (h : tG X tg v σ H Q) (k : ∀ σ H, Q σ H → Q' σ H) : tG X tg v σ H Q' := fun pins s u I r => thn (h pins s u I r) fun _ _ ⟨σ', H', I', q⟩ => ⟨σ', H', I', k _ _ q⟩
theorem enle_base {K : PySem.W.Frag} {F F' : Hp} (s : Same F F') (E : En) : EnLe (upEn K F' E) (upEn K F E) := ⟨fun _ _ h => upN.base s h, fun _ _ h => upR.base s h, fun _ _ h => upN.base s h, fun _ _ h => upN.base s h⟩
/-- go on behind a change of the frozen base -/
theorem WB.go {F' : Hp} {M' : Cells} {δ' : Slots} {σ' : L2.St} {H' : Hp} (h : WB X P body δ' M' E) (G : Go X P F' M' δ' σ' H') (s : Same F F') : tB X body (upEn X.K F E) σ' H' := (h σ' H' F' G).mono (enle_base s E)
theorem ws_of {t : TS} (p : PS X st t) (h : ∀ σ H F, Go X P F M δ σ H → t (upEn X.K F E) σ H) : WS X P st δ M E := fun σ H F G pins s I => p.run pins s σ H _ I (h σ H F G)
theorem nx_ {Q : Slots → Cells → Prop} {F0 : Hp} {K : PySem.W.Frag} (S : Stt K F M δ σ H) (s : Same F0 F) (q : Q δ M) : upN K F0 Q σ H := ⟨F, M, δ, s, S, q⟩

theorem wb_nil (h : E.nx δ M) : WB X P [] δ M E := fun σ H F G pins s I => pss_nil.run pins s σ H (upEn X.K F E) I (nx_ G.st (Same.refl _) h)
theorem wb_cons (h : WS X P st δ M { E with nx := fun δ' M' => WB X P rest δ' M' E }) : WB X P (st :: rest) δ M E := fun σ H F G pins s I =>
  (pss_cons ps_sem pss_sem).run pins s σ H (upEn X.K F E) I ((h σ H F G).mono ⟨fun σ' H' ⟨F', M', δ', s', S', q⟩ => q.go ⟨S', G.tk.up s'⟩ s', fun _ _ h => h, fun _ _ h => h, fun _ _ h => h⟩)
theorem wb_one (h : WS X P st δ M E) : WB X P [st] δ M E := fun σ H F G pins s I => (pss_one ps_sem).run pins s σ H (upEn X.K F E) I (h σ H F G)
theorem ws_expr (h : WE X P e δ M fun _ M' => E.nx δ M') (hs : swapsWith e none pos.line X.env = pure false := by rfl) : WS X P (.Expr e pos) δ M E := ws_of (ps_expr pe_sem hs) fun σ H F G => h.go G fun v H' F' M' d s G' r q => nx_ G'.st s q
theorem ws_ret (h : WE X P e δ M E.rt) : WS X P (.Return (some e) pos) δ M E := ws_of (ps_ret pe_sem) fun σ H F G => h.go G fun v H' F' M' d s G' r q => ⟨F', M', δ, σ, d, s, G'.st, r, q⟩
theorem ws_if (h : WT X P c δ M fun k M' => if k = true then WB X P body δ M' E else WB X P orelse δ M' E) : WS X P (.If c body orelse pos) δ M E :=
  ws_of (ps_if pt_sem pss_sem pss_sem) fun σ H F G => h.go G fun k H' F' M' s G' q => by
    cases k with
    | true => rw [if_pos rfl] at q ⊢; exact q.go G' s
    | false => rw [if_neg (by decide)] at q ⊢; exact q.go G' s
theorem ws_set {i : Nat} {x : Str} {pos' : Pos} (N : Nice X) (hi : X.N[i]? = some x) (hx : Loc X.env.scope x) (h : WE X P e δ M fun d M' => E.nx (δ.set i (some d)) M') (hs : swapsWith e (some (.Name x pos')) pos.line X.env = pure false := by rfl) (hf : X.fn x = true ∨ X.env.scope.names.lookup x = some .local := by first | exact .inl rfl | exact .inr rfl | assumption) : WS X P (.Assign [.Name x pos'] e pos) δ M E :=
  ws_of (ps_set N.nd hi hx pe_sem hs hf) fun σ H F G => h.go G fun v H' F' M' d s G' r q => nx_ (G'.st.setSlot r) s q
theorem wg_of {tg : Expr} {t : TG} {d : D} {Q : Slots → Cells → Prop} (p : PG X tg t) (h : ∀ σ H F v, Go X P F M δ σ H → Rep X.K F v d → t v σ H (upN X.K F Q)) : WG X P tg d δ M Q := fun σ H F v G r pins s u I ru => p.run pins s σ H v u _ I ru (h σ H F v G r)
theorem wg_name {i : Nat} {x : Str} {d : D} {Q : Slots → Cells → Prop} (N : Nice X) (hi : X.N[i]? = some x) (hx : Loc X.env.scope x) (h : Q (δ.set i (some d)) M) (hf : X.fn x = true ∨ X.env.scope.names.lookup x = some .local := by first | exact .inl rfl | exact .inr rfl | assumption) : WG X P (.Name x pos) d δ M Q :=
  wg_of (pg_name N.nd hi hx hf) fun σ H F v G r => nx_ (G.st.setSlot r) (Same.refl _) h
/-- targets one after another -/
def tGs (X : Cx) (ts : List Expr) : TGs := fun vs σ H Q => ∀ pins s us, Inv X pins σ H s → Vals vs us → wpAny (model X.prog X.w) X.A (assignInOrder ((assignEach ts X.env).map (·.2)) us) (fun _ s' => ∃ σ' H', Inv X pins σ' H' s' ∧ Q σ' H') X.xe s
theorem pgs_sem {ts : List Expr} : PGs X ts (tGs X ts) := ⟨fun pins s _ _ _ us _ I r h => h pins s us I r⟩
def WGs (X : Cx) (P : XP) (ts : List Expr) (ds : List D) (δ : Slots) (M : Cells) (Q : Slots → Cells → Prop) : Prop := ∀ σ H F vs, Go X P F M δ σ H → Reps X.K F vs ds → tGs X ts vs σ H (upN X.K F Q)
theorem wgs_nil {Q : Slots → Cells → Prop} (h : Q δ M) : WGs X P [] [] δ M Q := fun σ H F vs G r pins s us I ru => pgs_nil.run pins s σ H vs us _ I ru ⟨by cases r; rfl, nx_ G.st (Same.refl _) h⟩
theorem wgs_cons {t : Expr} {ts : List Expr} {d : D} {ds : List D} {Q : Slots → Cells → Prop} (h : WG X P t d δ M fun δ' M' => WGs X P ts ds δ' M' Q) (hs : (assignEach (t :: ts) X.env).map (·.2) = assign t X.env :: (assignEach ts X.env).map (·.2) := by rfl) : WGs X P (t :: ts) (d :: ds) δ M Q := fun σ H F vs G r pins s us I ru => by
  cases r with
  | cons r1 r2 =>
    refine (pgs_cons pg_sem pgs_sem hs).run pins s σ H _ us _ I ru ⟨_, _, rfl, (h σ H F _ G r1).mono fun σ' H' ⟨F', M', δ', s', S', q⟩ => ?_⟩
    exact fun pins s us I ru => thn (q σ' H' F' _ ⟨S', G.tk.up s'⟩ (r2.up s') pins s us I ru) fun _ _ ⟨σ2, H2, I2, q2⟩ => ⟨σ2, H2, I2, upN.base s' q2⟩
theorem wg_tup {ts : List Expr} {k : Nat} {d : D} {ds : List D} {Q : Slots → Cells → Prop} (N : Nice X) (hd : d = .tup ds) (h : WGs X P ts ds δ M Q) (hl : ds.length = (assignEach ts X.env).length := by rfl) (hst : (assignEach ts X.env).findIdx? (·.1) = none := by rfl) : WG X P (.Tuple ts k pos) d δ M Q := by
  subst hd
  refine wg_of (pg_tup N.calm pgs_sem (n := ds.length) hl.symm hst) fun σ H F v G r => ?_
  obtain ⟨a, vs, rfl, e1, e2⟩ := G.st.readT r
  exact ⟨a, vs, rfl, e1, e2.length, h σ H F vs G e2⟩
theorem wg_sub {d : D} {Q : Slots → Cells → Prop} (h : WE X P o δ M fun x M1 => WE X P a δ M1 fun y M2 => ∃ k q ds z j, x = .cel q ∧ M2[k]? = some (q, .lst ds) ∧ y = .int z ∧ ixN ds.length z = some j ∧ Q δ (M2.set k (q, .lst (ds.set j d))))
    (ha : ∀ v, assign (.Subscript o a pos) X.env v = (do
      let ov ← holding [v] (eval o X.env)
      let iv ← holding [v, ov] (eval a X.env)
      standAt pos
      holding [v, ov, iv] (setItem ov iv v)
      release [v, ov, iv] []) := by intro _; rfl) : WG X P (.Subscript o a pos) d δ M Q :=
  wg_of (pg_sub pe_sem pe_sem set_list ha) fun σ H F v G r => h.go G fun ov H1 F1 M1 x s1 G1 r1 q1 => q1.go G1 fun iv H2 F2 M2 y s2 G2 r2 q2 => by
    obtain ⟨k, q, ds, z, j, rfl, hk, rfl, hj, hq⟩ := q2
    cases r1; cases r2
    obtain ⟨vs, e1, e2, e3⟩ := G2.st.cellAt (List.mem_of_getElem? hk)
    refine ⟨q, vs, z, j, rfl, rfl, e1, by rw [e3.length]; exact hj, ?_⟩
    exact nx_ (G2.st.setCell (c' := .lst (ds.set j d)) hk ⟨vs.set j v, upd_same, e3.set j (r.up (s1.trans s2))⟩) (s1.trans s2) hq
theorem ws_asg {tg : Expr} (h : WE X P e δ M fun d M' => WG X P tg d δ M' E.nx) (hs : swapsWithSole [tg] e pos.line X.env = pure false := by rfl) (hw : swappedStores [tg] e X.env = pure none := by rfl)
    (h1 : (assignEach [tg] X.env).map (·.2) = [assign tg X.env] := by rfl) : WS X P (.Assign [tg] e pos) δ M E :=
  ws_of (ps_asg pe_sem pg_sem hs hw h1) fun σ H F G => h.go G fun v H' F' M' d s G' r q => (q σ H' F' v G' r).mono fun _ _ z => upN.base s z
/-- a, b = x, y of plain local names -/
theorem ws_par {i j : Nat} {x y : Str} {px py pt : Pos} {kt k2 pt2} (N : Nice X) (hi : X.N[i]? = some x) (hj : X.N[j]? = some y) (hij : i ≠ j) (hx : X.env.scope.names.lookup x = some .local) (hy : X.env.scope.names.lookup y = some .local)
    (hw : swappedStores [.Tuple [.Name x px, .Name y py] kt pt] (.Tuple [a, b] k2 pt2) X.env = pure (some [x, y])) (h : WA X P [a, b] δ M fun ds M' => ∃ d1 d2, ds = [d1, d2] ∧ E.nx ((δ.set i (some d1)).set j (some d2)) M')
    (hs : swapsWithSole [.Tuple [.Name x px, .Name y py] kt pt] (.Tuple [a, b] k2 pt2) pos.line X.env = pure false := by rfl) : WS X P (.Assign [.Tuple [.Name x px, .Name y py] kt pt] (.Tuple [a, b] k2 pt2) pos) δ M E :=
  ws_of (ps_par N.calm N.nd hi hj hij hx hy pa_sem hw hs) fun σ H F G => h.go G fun vs H' F' M' ds s G' r q => by
    obtain ⟨d1, d2, rfl, q⟩ := q
    obtain ⟨v, w, rfl, r1, r2⟩ := r.two
    exact ⟨v, w, rfl, nx_ ((G'.st.setSlot r1).setSlot r2) s q⟩
theorem ws_par3 {i j l : Nat} {x y z : Str} {px py pz pt : Pos} {kt k2 pt2} (N : Nice X) (hi : X.N[i]? = some x) (hj : X.N[j]? = some y) (hl : X.N[l]? = some z) (hij : i ≠ j) (hil : i ≠ l) (hjl : j ≠ l) (hx : X.env.scope.names.lookup x = some .local) (hy : X.env.scope.names.lookup y = some .local) (hz : X.env.scope.names.lookup z = some .local)
    (hw : swappedStores [.Tuple [.Name x px, .Name y py, .Name z pz] kt pt] (.Tuple [a, b, c] k2 pt2) X.env = pure (some [x, y, z])) (h : WA X P [a, b, c] δ M fun ds M' => ∃ d1 d2 d3, ds = [d1, d2, d3] ∧ E.nx (((δ.set i (some d1)).set j (some d2)).set l (some d3)) M')
    (hs : swapsWithSole [.Tuple [.Name x px, .Name y py, .Name z pz] kt pt] (.Tuple [a, b, c] k2 pt2) pos.line X.env = pure false := by rfl) : WS X P (.Assign [.Tuple [.Name x px, .Name y py, .Name z pz] kt pt] (.Tuple [a, b, c] k2 pt2) pos) δ M E :=
  ws_of (ps_par3 N.calm N.nd hi hj hl hij hil hjl hx hy hz pa_sem hw hs) fun σ H F G => h.go G fun vs H' F' M' ds s G' r q => by
    obtain ⟨d1, d2, d3, rfl, q⟩ := q
    cases r with
    | cons r1 r =>
      obtain ⟨v, w, rfl, r2, r3⟩ := r.two
      exact ⟨_, v, w, rfl, nx_ (((G'.st.setSlot r1).setSlot r2).setSlot r3) s q⟩
theorem ws_while (N : Nice X) (I : Nat → Slots → Cells → Prop) (h0 : ∃ n, I n δ M)
    (hs : ∀ n δ' M', I n δ' M' → WT X P c δ' M' fun k M1 => if k = true then WB X P body δ' M1 { E with nx := fun δ2 M2 => ∃ m, m < n ∧ I m δ2 M2, ct := fun δ2 M2 => ∃ m, m < n ∧ I m δ2 M2, bk := E.nx } else E.nx δ' M1) : WS X P (.While c body [] pos) δ M E :=
  ws_of (ps_while N.own pt_sem pss_sem) fun σ H F G => by
    obtain ⟨n0, i0⟩ := h0
    refine ⟨fun n σ' H' => ∃ F' M' δ', Same F F' ∧ Go X P F' M' δ' σ' H' ∧ I n δ' M', ⟨n0, F, M, δ, Same.refl _, G, i0⟩, ?_⟩
    rintro n σ1 H1 ⟨F1, M1, δ1, s1, G1, i1⟩
    refine (hs n δ1 M1 i1).go G1 fun k H2 F2 M2 s2 G2 q2 => ?_
    cases k with
    | false => rw [if_neg (by decide)] at q2 ⊢; exact nx_ G2.st (s1.trans s2) q2
    | true =>
      rw [if_pos rfl] at q2 ⊢
      refine ⟨upN X.K F (fun δ2 M2 => ∃ m, m < n ∧ I m δ2 M2), fun σ3 H3 ⟨F3, M3, δ3, s3, S3, m, hm, i3⟩ => ⟨m, hm, F3, M3, δ3, s3, ⟨S3, G.tk.up s3⟩, i3⟩, ?_⟩
      exact q2.go G2 (s1.trans s2)
/-- what an iterator walks: the items, and while what it goes on -/
def WalkP (K : PySem.W.Frag) (J : It) (F : Hp) (ds : List D) (Sb : Cells → Prop) : Prop :=
  ∀ (F' : Hp) (M' : Cells) (δ' : Slots) (σ' : L2.St) (H' : Hp), Same F F' → Stt K F' M' δ' σ' H' → Sb M' →
    (∀ i, i < ds.length → J.go i H') ∧ J.stop ds.length H' ∧ ∀ i x H2, i < ds.length → J.yld i H' x H2 → ∃ F2 d, Same F' F2 ∧ Stt K F2 M' δ' σ' H2 ∧ ds[i]? = some d ∧ Rep K F2 x d
def tI (X : Cx) (tg e : Expr) : TI := fun σ H R => ∀ pins s, Inv X pins σ H s → wpAny (model X.prog X.w) X.A (eval e X.env) (fun v s1 => wpAny (model X.prog X.w) X.A (pyIter v) (PIE X pins σ tg R) X.xe s1) X.xe s
theorem pi_sem {tg : Expr} : PI X tg e (tI X tg e) := ⟨fun pins s _ _ _ I h => h pins s I⟩
def upI (K : PySem.W.Frag) (F : Hp) (δ : Slots) (σ : L2.St) (R : List D → (Cells → Prop) → Cells → Prop) : It → Hp → Prop := fun J H' => ∃ F' M' ds Sb, Same F F' ∧ Stt K F' M' δ σ H' ∧ WalkP K J F' ds Sb ∧ R ds Sb M'
def WI (X : Cx) (P : XP) (tg e : Expr) (δ : Slots) (M : Cells) (R : List D → (Cells → Prop) → Cells → Prop) : Prop := ∀ σ H F, Go X P F M δ σ H → tI X tg e σ H (upI X.K F δ σ R)
theorem tI.mono {tg : Expr} {R R' : It → Hp → Prop} (h : tI X tg e σ H R) (k : ∀ J H, R J H → R' J H) : tI X tg e σ H R' := fun pins s I => thn (h pins s I) fun _ _ q => thn q fun _ _ ⟨it, fp, tn, J, H', e1, I', T, t0, f, r⟩ => ⟨it, fp, tn, J, H', e1, I', T, t0, f, k _ _ r⟩
theorem wi_of {tg : Expr} {t : TI} {R : List D → (Cells → Prop) → Cells → Prop} (p : PI X tg e t) (h : ∀ σ H F, Go X P F M δ σ H → t σ H (upI X.K F δ σ R)) : WI X P tg e δ M R := fun σ H F G pins s I => p.run pins s σ H _ I (h σ H F G)
theorem ws_for {tg iter : Expr} (N : Nice X) (h : WI X P tg iter δ M fun ds Sb M1 => ∃ I : Nat → Slots → Cells → Prop, I 0 δ M1 ∧ (∀ i δ' M', i ≤ ds.length → I i δ' M' → Sb M') ∧
      (∀ i d δ' M', ds[i]? = some d → I i δ' M' → WG X P tg d δ' M' fun δ2 M2 => WB X P body δ2 M2 { E with nx := I (i + 1), ct := I (i + 1), bk := E.nx }) ∧ (∀ δ' M', I ds.length δ' M' → E.nx δ' M'))
    (hs : ∀ x, foldedSetIterable iter X.env x = pure x := by intro _; rfl) : WS X P (.For tg iter body [] pos) δ M E :=
  ws_of (ps_for N.own N.calm pi_sem pg_sem pss_sem hs) fun σ H F G => (h σ H F G).mono fun J H1 ⟨F1, M1, ds, Sb, s1, S1, wk, I, i0, iS, iT, iE⟩ => by
    refine ⟨fun i n σ' H' => n = ds.length - i ∧ i ≤ ds.length ∧ ∃ F' M' δ', Same F1 F' ∧ Stt X.K F' M' δ' σ' H' ∧ I i δ' M', ⟨ds.length, by simp, Nat.zero_le _, F1, M1, δ, Same.refl _, S1, i0⟩, ?_⟩
    rintro i n σ2 H2 ⟨rfl, hi, F2, M2, δ2, s2, S2, i2⟩
    obtain ⟨wg, ws, wy⟩ := wk F2 M2 δ2 σ2 H2 s2 S2 (iS i δ2 M2 hi i2)
    by_cases hlt : i < ds.length
    · refine .inr ⟨wg i hlt, upN X.K F1 (I (i + 1)), fun σ3 H3 ⟨F3, M3, δ3, s3, S3, i3⟩ => ⟨ds.length - (i + 1), by omega, rfl, hlt, F3, M3, δ3, s3, S3, i3⟩, fun x H3 y => ?_⟩
      obtain ⟨F3, d, s3, S3, hd, r3⟩ := wy i x H3 hlt y
      have s13 := (s2.trans s3)
      refine (iT i d δ2 M2 hd i2 σ2 H3 F3 x ⟨S3, G.tk.up (s1.trans s13)⟩ r3).mono fun σ4 H4 ⟨F4, M4, δ4, s4, S4, q4⟩ => ?_
      have s14 := s13.trans s4
      refine (q4 σ4 H4 F4 ⟨S4, G.tk.up (s1.trans s14)⟩).mono ⟨fun _ _ q => upN.base s14 q, fun _ _ q => upR.base (s1.trans s14) q, fun _ _ q => upN.base (s1.trans s14) q, fun _ _ q => upN.base s14 q⟩
    · have e : i = ds.length := by omega
      subst e
      exact .inl ⟨ws, nx_ S2 (s1.trans s2) (iE δ2 M2 i2)⟩

theorem walkP_of {K : PySem.W.Frag} {J : It} {n : Nat} {G : Hp → Prop} {Y : Nat → Hp → V → Hp → Prop} (w : L2.Walk J n G Y) {ds : List D} {Sb : Cells → Prop} (hn : ds.length = n) (hG : ∀ (F' : Hp) (M' : Cells) (δ' : Slots) (σ' : L2.St) (H' : Hp), Same F F' → Stt K F' M' δ' σ' H' → Sb M' → G H')
    (hY : ∀ (F' : Hp) (M' : Cells) (δ' : Slots) (σ' : L2.St) (H' : Hp) i x H2, i < n → Same F F' → Stt K F' M' δ' σ' H' → Y i H' x H2 → ∃ F2 d, Same F' F2 ∧ Stt K F2 M' δ' σ' H2 ∧ ds[i]? = some d ∧ Rep K F2 x d) : WalkP K J F ds Sb := by
  intro F' M' δ' σ' H' s S q
  have g := hG F' M' δ' σ' H' s S q
  subst hn
  exact ⟨fun i hi => w.goes i H' hi g, w.stops H' g, fun i x H2 hi y => hY F' M' δ' σ' H' i x H2 hi s S (w.yields i H' x H2 hi g y)⟩
theorem wi_list {tg : Expr} {R : List D → (Cells → Prop) → Cells → Prop} (h : WE X P e δ M fun d M1 => ∃ ds, LV M1 d ds ∧ R ds (fun M' => LV M' d ds) M1) : WI X P tg e δ M R :=
  wi_of (pi_list pe_sem) fun σ H F G => h.go G fun v H1 F1 M1 d s1 G1 r1 ⟨ds, hl, q⟩ => by
    obtain ⟨a, vs, rfl, e1, e2⟩ := G1.st.readL r1 hl
    refine ⟨a, rfl, ⟨vs, e1⟩, F1, M1, ds, _, s1, G1.st, ?_, q⟩
    intro F' M' δ' σ' H' s S hM
    obtain ⟨a', xs, ea, f1, f2⟩ := S.readL (r1.up s) hM
    cases ea
    have w := walk_list (K := X.K) (a := a) (xs := xs)
    refine ⟨fun i hi => w.goes i H' (by rw [f2.length]; exact hi) f1, by rw [← f2.length]; exact w.stops H' f1, fun i x H2 hi y => ?_⟩
    obtain ⟨rfl, y2⟩ := w.yields i H' x H2 (by rw [f2.length]; exact hi) f1 y
    obtain ⟨d', h1, h2⟩ := f2.get' y2
    exact ⟨F', d', Same.refl _, S, h1, h2⟩
theorem wi_tup {tg : Expr} {R : List D → (Cells → Prop) → Cells → Prop} (h : WE X P e δ M fun d M1 => ∃ ds, d = .tup ds ∧ R ds (fun _ => True) M1) : WI X P tg e δ M R :=
  wi_of (pi_tup pe_sem) fun σ H F G => h.go G fun v H1 F1 M1 d s1 G1 r1 ⟨ds, hl, q⟩ => by
    subst hl
    obtain ⟨a, vs, rfl, e1, e2⟩ := G1.st.readT r1
    refine ⟨a, rfl, ⟨vs, e1⟩, F1, M1, ds, _, s1, G1.st, ?_, q⟩
    intro F' M' δ' σ' H' s S hM
    obtain ⟨a', xs, ea, f1, f2⟩ := S.readT (r1.up s)
    cases ea
    have w := walk_tup (K := X.K) (a := a) (xs := xs)
    refine ⟨fun i hi => w.goes i H' (by rw [f2.length]; exact hi) f1, by rw [← f2.length]; exact w.stops H' f1, fun i x H2 hi y => ?_⟩
    obtain ⟨rfl, y2⟩ := w.yields i H' x H2 (by rw [f2.length]; exact hi) f1 y
    obtain ⟨d', h1, h2⟩ := f2.get' y2
    exact ⟨F', d', Same.refl _, S, h1, h2⟩
/-- lo, lo + 1, .. -/
def rangeD (lo : Int) (n : Nat) : List D := (List.range n).map fun i => D.int (lo + (i : Nat))
theorem rangeD_len (lo : Int) (n : Nat) : (rangeD lo n).length = n := by simp [rangeD]
theorem rangeD_get {lo : Int} {n i : Nat} (h : i < n) : (rangeD lo n)[i]? = some (.int (lo + (i : Nat))) := by simp [rangeD, h]
theorem rangeD_inv {lo : Int} {n i : Nat} {d : D} (h : (rangeD lo n)[i]? = some d) : i < n ∧ d = .int (lo + (i : Nat)) := by
  have hi : i < n := by have := (List.getElem?_eq_some_iff.mp h).1; rwa [rangeD_len] at this
  rw [rangeD_get hi] at h
  exact ⟨hi, (Option.some.inj h).symm⟩
theorem walkP_range {K : PySem.W.Frag} {lo : Int} {n : Nat} : WalkP K (Itr lo n) F (rangeD lo n) (fun _ => True) :=
  walkP_of walk_range (rangeD_len lo n) (fun _ _ _ _ _ _ _ _ => trivial) fun F' M' δ' σ' H' i x H2 hi s S y => by
    obtain ⟨rfl, rfl⟩ := y
    exact ⟨F', _, Same.refl _, S, rangeD_get hi, .int _⟩
theorem wi_range1 {tg : Expr} {R : List D → (Cells → Prop) → Cells → Prop} (hg : Gl X "range") (hm : X.mg "range" = none) (h : WA X P [a] δ M fun ds M1 => ∃ j : Int, ds = [.int j] ∧ -(2 ^ 62) ≤ j ∧ j < 2 ^ 62 ∧ R (rangeD 0 j.toNat) (fun _ => True) M1) (hs : starEach [a] X.env = [(false, eval a X.env)] := by rfl) : WI X P tg (.Call (.Name "range" p) [a] [] pos) δ M R :=
  wi_of (pi_range1 hg hm pa_sem hs) fun σ H F G => h.go G fun vs H1 F1 M1 ds s1 G1 r1 ⟨j, e, h1, h2, q⟩ => by
    subst e
    obtain ⟨v, rfl, r⟩ := r1.one
    cases r
    exact ⟨j, rfl, h1, h2, F1, M1, _, _, s1, G1.st, walkP_range, q⟩
theorem wi_range2 {tg : Expr} {R : List D → (Cells → Prop) → Cells → Prop} (hg : Gl X "range") (hm : X.mg "range" = none) (h : WA X P [a, b] δ M fun ds M1 => ∃ i j : Int, ds = [.int i, .int j] ∧ (-(2 ^ 62) ≤ i ∧ i < 2 ^ 62 ∧ -(2 ^ 62) ≤ j ∧ j < 2 ^ 62) ∧ R (rangeD i (j - i).toNat) (fun _ => True) M1) (hs : starEach [a, b] X.env = [(false, eval a X.env), (false, eval b X.env)] := by rfl) (hs2 : starEach [b] X.env = [(false, eval b X.env)] := by rfl) : WI X P tg (.Call (.Name "range" p) [a, b] [] pos) δ M R :=
  wi_of (pi_range2 hg hm pa_sem hs hs2) fun σ H F G => h.go G fun vs H1 F1 M1 ds s1 G1 r1 ⟨i, j, e, h1, q⟩ => by
    subst e
    obtain ⟨v, w, rfl, r, r'⟩ := r1.two
    cases r; cases r'
    exact ⟨i, j, rfl, h1, F1, M1, _, _, s1, G1.st, walkP_range, q⟩
def enumD (ds : List D) : List D := (List.range ds.length).map fun i => D.tup [.int (i : Nat), ds.getD i .non]
theorem enumD_len (ds : List D) : (enumD ds).length = ds.length := by simp [enumD]
theorem enumD_get {ds : List D} {i : Nat} {d : D} (h : ds[i]? = some d) : (enumD ds)[i]? = some (.tup [.int (i : Nat), d]) := by
  have hi := (List.getElem?_eq_some_iff.mp h).1
  have e : ds[i] = d := by
    rw [List.getElem?_eq_getElem hi] at h
    exact Option.some.inj h
  simp [enumD, hi, e]
theorem enumD_inv {ds : List D} {i : Nat} {z : D} (h : (enumD ds)[i]? = some z) : ∃ d, ds[i]? = some d ∧ z = .tup [.int (i : Nat), d] := by
  have hi : i < ds.length := by have := (List.getElem?_eq_some_iff.mp h).1; rwa [enumD_len] at this
  have e : ds[i]? = some ds[i] := by simp
  rw [enumD_get e] at h
  exact ⟨_, e, (Option.some.inj h).symm⟩
/-- a new pair is laid -/
theorem Stt.pair {K : PySem.W.Frag} (S : Stt K F M δ σ H) {T : Addr} {x y : V} {d d' : D} (hT : H T = none) (rx : Rep K F x d) (ry : Rep K F y d') : Same F (upd F T (.tup [x, y])) ∧ Stt K (upd F T (.tup [x, y])) M δ σ (upd H T (.tup [x, y])) ∧ Rep K (upd F T (.tup [x, y])) (.ref T) (.tup [d, d']) := by
  obtain ⟨S', s'⟩ := S.froz (o := .tup [x, y]) hT
  exact ⟨s', S', .tup (.of upd_same) (.cons (rx.up s') (.cons (ry.up s') .nil))⟩
theorem wi_enum {elts : List Expr} {kk : Nat} {tpos : Pos} {R : List D → (Cells → Prop) → Cells → Prop} (hg : Gl X "enumerate") (hm : X.mg "enumerate" = none) (h : WA X P [e] δ M fun ds M1 => ∃ d xs, ds = [d] ∧ LV M1 d xs ∧ R (enumD xs) (fun M' => LV M' d xs) M1) (hs : starEach [e] X.env = [(false, eval e X.env)] := by rfl) : WI X P (.Tuple elts kk tpos) (.Call (.Name "enumerate" p) [e] [] pos) δ M R :=
  wi_of (pi_enum hg hm pa_sem hs) fun σ H F G => h.go G fun vs H1 F1 M1 ds s1 G1 r1 ⟨d, xs, ed, hl, q⟩ => by
    subst ed
    obtain ⟨v, rfl, r⟩ := r1.one
    obtain ⟨a, vs, rfl, e1, e2⟩ := G1.st.readL r hl
    refine ⟨a, vs, rfl, e1, F1, M1, _, _, s1, G1.st, ?_, q⟩
    intro F' M' δ' σ' H' s S hM
    obtain ⟨a', ys, ea, f1, f2⟩ := S.readL (r.up s) hM
    cases ea
    have w := walk_enum (K := X.K) (a := a) (xs := ys)
    rw [enumD_len]
    refine ⟨fun i hi => w.goes i H' (by rw [f2.length]; exact hi) f1, by rw [← f2.length]; exact w.stops H' f1, fun i x H2 hi y => ?_⟩
    obtain ⟨T, x1, x2, rfl, hT, rfl, h1, h2⟩ := w.yields i H' x H2 (by rw [f2.length]; exact hi) f1 y
    cases h1
    obtain ⟨d', g1, g2⟩ := f2.get' h2
    obtain ⟨s', S', r'⟩ := S.pair hT (.int _) g2
    exact ⟨_, _, s', S', enumD_get g1, r'⟩
def zipD (xs ys : List D) : List D := (xs.zip ys).map fun p => D.tup [p.1, p.2]
theorem zipD_len (xs ys : List D) : (zipD xs ys).length = min xs.length ys.length := by simp [zipD]
theorem zipD_get {xs ys : List D} {i : Nat} {x y : D} (h : xs[i]? = some x) (g : ys[i]? = some y) : (zipD xs ys)[i]? = some (.tup [x, y]) := by
  have e : (xs.zip ys)[i]? = some (x, y) := List.getElem?_zip_eq_some.mpr ⟨h, g⟩
  unfold zipD
  rw [List.getElem?_map, e]
  rfl
theorem zipD_inv {xs ys : List D} {i : Nat} {z : D} (h : (zipD xs ys)[i]? = some z) : ∃ x y, xs[i]? = some x ∧ ys[i]? = some y ∧ z = .tup [x, y] := by
  unfold zipD at h
  rw [List.getElem?_map] at h
  cases e : (xs.zip ys)[i]? with
  | none => rw [e] at h; cases h
  | some q =>
    rw [e] at h
    obtain ⟨h1, h2⟩ := List.getElem?_zip_eq_some.mp e
    exact ⟨_, _, h1, h2, (Option.some.inj h).symm⟩
theorem wi_zip {elts : List Expr} {kk : Nat} {tpos : Pos} {R : List D → (Cells → Prop) → Cells → Prop} (hg : Gl X "zip") (hm : X.mg "zip" = none) (h : WA X P [a, b] δ M fun ds M1 => ∃ d1 d2 xs ys, ds = [d1, d2] ∧ LV M1 d1 xs ∧ LV M1 d2 ys ∧ R (zipD xs ys) (fun M' => LV M' d1 xs ∧ LV M' d2 ys) M1)
    (hs : starEach [a, b] X.env = (false, eval a X.env) :: starEach [b] X.env := by rfl) (hpl : (backTo pos (starEach [b] X.env)).any (·.1) = false := by rfl) : WI X P (.Tuple elts kk tpos) (.Call (.Name "zip" p) [a, b] [] pos) δ M R :=
  wi_of (pi_zip hg hm pa_sem hs hpl) fun σ H F G => h.go G fun vs H1 F1 M1 ds s1 G1 r1 ⟨d1, d2, xs, ys, ed, hl1, hl2, q⟩ => by
    subst ed
    obtain ⟨v, v2, rfl, r, r'⟩ := r1.two
    obtain ⟨a, vs, rfl, e1, e2⟩ := G1.st.readL r hl1
    obtain ⟨a', vs', rfl, e1', e2'⟩ := G1.st.readL r' hl2
    refine ⟨a, a', vs, vs', rfl, e1, e1', F1, M1, _, _, s1, G1.st, ?_, q⟩
    intro F' M' δ' σ' H' s S hM
    obtain ⟨_, zs, ea, f1, f2⟩ := S.readL (r.up s) hM.1
    cases ea
    obtain ⟨_, zs', ea, f1', f2'⟩ := S.readL (r'.up s) hM.2
    cases ea
    have w := walk_zip (K := X.K) (a := a) (b := a') (xs := zs) (ys := zs') rfl
    rw [zipD_len]
    have el : min xs.length ys.length = min zs.length zs'.length := by rw [f2.length, f2'.length]
    rw [el]
    refine ⟨fun i hi => w.goes i H' hi ⟨f1, f1'⟩, w.stops H' ⟨f1, f1'⟩, fun i x H2 hi y => ?_⟩
    obtain ⟨T, x1, x2, rfl, hT, rfl, h1, h2⟩ := w.yields i H' x H2 hi ⟨f1, f1'⟩ y
    obtain ⟨z1, g1, g2⟩ := f2.get' h1
    obtain ⟨z2, g3, g4⟩ := f2'.get' h2
    obtain ⟨s', S', r'⟩ := S.pair hT g2 g4
    exact ⟨_, _, s', S', zipD_get g1 g3, r'⟩
end
end PW
/-! PW5 -/
namespace PW
open PySem L2 PyProof.Rows

def wipeD (δ : Slots) : List Nat → Slots
  | [] => δ
  | v :: vs => (wipeD δ vs).set v none
theorem wipeD_length (δ : Slots) : ∀ vs : List Nat, (wipeD δ vs).length = δ.length
  | [] => rfl
  | v :: vs => by unfold wipeD; rw [List.length_set, wipeD_length δ vs]
theorem wipeD_some {δ : Slots} {i : Nat} {x : D} : ∀ {vs : List Nat}, (wipeD δ vs)[i]? = some (some x) → δ[i]? = some (some x) ∧ i ∉ vs
  | [], h => ⟨h, by simp⟩
  | v :: vs, h => by
    unfold wipeD at h
    rcases getElem?_set_cases h with ⟨_, e⟩ | ⟨h1, h2⟩
    · cases e
    · obtain ⟨h3, h4⟩ := wipeD_some h2
      exact ⟨h3, by simp only [List.mem_cons, not_or]; exact ⟨h1, h4⟩⟩
theorem Stt.wipe {K : PySem.W.Frag} {F : Hp} {M : Cells} {δ : Slots} {σ : L2.St} {H : Hp} (S : Stt K F M δ σ H) (vs : List Nat) : Stt K F M (wipeD δ vs) (L2.wipe σ vs) H :=
  S.slots (by rw [wipeD_length, L2.wipe_length]; exact S.dlen) fun i d h => by
    obtain ⟨h1, h2⟩ := wipeD_some h
    obtain ⟨v, e1, e2⟩ := S.slot i d h1
    exact ⟨v, by rw [L2.wipe_out h2]; exact e1, e2⟩
/-- the context of a comprehension's block -/
structure BK where
  s0 : Shared
  H0 : Hp
  C : Addr
  cl : List (Str × Addr)
  fp : List Addr
abbrev Bx (X : Cx) (scope : Scope) (b : BK) : Cx := X.blk b.s0 b.H0 scope (compEnvC scope b.cl b.C X.env) b.fp
theorem Reps.three {K : PySem.W.Frag} {F : Hp} {vs : List V} {d e f : D} (h : Reps K F vs [d, e, f]) : ∃ v w u, vs = [v, w, u] ∧ Rep K F v d ∧ Rep K F w e ∧ Rep K F u f := by
  cases h with
  | cons a b =>
    obtain ⟨w, u, rfl, r1, r2⟩ := b.two
    exact ⟨_, w, u, rfl, a, r1, r2⟩
/-- how a target binds the item in the block's slots: one name, two names -/
inductive Tg (X : Cx) (scope : Scope) : Expr → List (Str × Nat) → (D → Slots → Slots → Prop) → TG → Prop
  | one {x : Str} {i : Nat} {pos : Pos} (hi : X.N[i]? = some x) (hx : scope.names.lookup x = some .local) : Tg X scope (.Name x pos) [(x, i)] (fun d δ δ' => δ' = δ.set i (some d)) (gName i)
  | two {x y : Str} {i j : Nat} {px py pos : Pos} {kk : Nat} (hi : X.N[i]? = some x) (hj : X.N[j]? = some y) (hij : i ≠ j) (hx : scope.names.lookup x = some .local) (hy : scope.names.lookup y = some .local) :
      Tg X scope (.Tuple [.Name x px, .Name y py] kk pos) [(x, i), (y, j)] (fun d δ δ' => ∃ d1 d2, d = .tup [d1, d2] ∧ δ' = (δ.set i (some d1)).set j (some d2)) (gTup X.K 2 (gCons (gName i) (gCons (gName j) gNil)))
  | three {x y z : Str} {i j k : Nat} {px py pz pos : Pos} {kk : Nat} (hi : X.N[i]? = some x) (hj : X.N[j]? = some y) (hk : X.N[k]? = some z) (hne : i ≠ j ∧ i ≠ k ∧ j ≠ k) (hx : scope.names.lookup x = some .local) (hy : scope.names.lookup y = some .local) (hz : scope.names.lookup z = some .local) :
      Tg X scope (.Tuple [.Name x px, .Name y py, .Name z pz] kk pos) [(x, i), (y, j), (z, k)] (fun d δ δ' => ∃ d1 d2 d3, d = .tup [d1, d2, d3] ∧ δ' = ((δ.set i (some d1)).set j (some d2)).set k (some d3)) (gTup X.K 3 (gCons (gName i) (gCons (gName j) (gCons (gName k) gNil))))
  | four {x y z u : Str} {i j k l : Nat} {px py pz pu pa pb pos : Pos} {kk ka kb : Nat} (hi : X.N[i]? = some x) (hj : X.N[j]? = some y) (hk : X.N[k]? = some z) (hl : X.N[l]? = some u) (hne : i ≠ j ∧ i ≠ k ∧ i ≠ l ∧ j ≠ k ∧ j ≠ l ∧ k ≠ l)
      (hx : scope.names.lookup x = some .local) (hy : scope.names.lookup y = some .local) (hz : scope.names.lookup z = some .local) (hu : scope.names.lookup u = some .local) :
      Tg X scope (.Tuple [.Tuple [.Name x px, .Name y py] ka pa, .Tuple [.Name z pz, .Name u pu] kb pb] kk pos) [(x, i), (y, j), (z, k), (u, l)] (fun d δ δ' => ∃ d1 d2 d3 d4, d = .tup [.tup [d1, d2], .tup [d3, d4]] ∧ δ' = (((δ.set i (some d1)).set j (some d2)).set k (some d3)).set l (some d4))
      (gTup X.K 2 (gCons (gTup X.K 2 (gCons (gName i) (gCons (gName j) gNil))) (gCons (gTup X.K 2 (gCons (gName k) (gCons (gName l) gNil))) gNil)))
section
variable {X : Cx} {P : XP} {F : Hp} {M : Cells} {δ : Slots} {σ : L2.St} {H : Hp} {e a b c o elt iter tg : Expr} {es ifs : List Expr} {pos apos cpos p p2 : Pos} {scope : Scope} {own : List (Str × Nat)} {bind : D → Slots → Slots → Prop} {g : TG}
theorem blk_loc {scope : Scope} {x : Str} {cl : List (Str × Addr)} {C : Addr} {env : Env} (hx : scope.names.lookup x = some .local) : (compEnvC scope cl C env).scope.names.lookup x = some .local := lookup_relabel_local hx
theorem Tg.pg (N : Nice X) (T : Tg X scope tg own bind g) (s : Shared) (H : Hp) (C : Addr) (cl : List (Str × Addr)) (fp : List Addr) : PG (X.blk s H scope (compEnvC scope cl C X.env) fp) tg g := by
  cases T with
  | one hi hx => exact pg_name N.nd hi (.inl (blk_loc hx)) (.inr (blk_loc hx))
  | two hi hj hij hx hy => exact pg_tup N.calm (pgs_cons (pg_name N.nd hi (.inl (blk_loc hx)) (.inr (blk_loc hx))) (pgs_cons (pg_name N.nd hj (.inl (blk_loc hy)) (.inr (blk_loc hy))) pgs_nil))
  | three hi hj hk hne hx hy hz => exact pg_tup N.calm (pgs_cons (pg_name N.nd hi (.inl (blk_loc hx)) (.inr (blk_loc hx))) (pgs_cons (pg_name N.nd hj (.inl (blk_loc hy)) (.inr (blk_loc hy))) (pgs_cons (pg_name N.nd hk (.inl (blk_loc hz)) (.inr (blk_loc hz))) pgs_nil)))
  | four hi hj hk hl hne hx hy hz hu => exact pg_tup N.calm (pgs_cons (pg_tup N.calm (pgs_cons (pg_name N.nd hi (.inl (blk_loc hx)) (.inr (blk_loc hx))) (pgs_cons (pg_name N.nd hj (.inl (blk_loc hy)) (.inr (blk_loc hy))) pgs_nil)))
      (pgs_cons (pg_tup N.calm (pgs_cons (pg_name N.nd hk (.inl (blk_loc hz)) (.inr (blk_loc hz))) (pgs_cons (pg_name N.nd hl (.inl (blk_loc hu)) (.inr (blk_loc hu))) pgs_nil))) pgs_nil))
theorem Tg.run {d : D} {δ' : Slots} {x : V} (T : Tg X scope tg own bind g) (S : Stt X.K F M δ σ H) (r : Rep X.K F x d) (hb : bind d (wipeD δ (own.map (·.2))) δ') {K' : L2.St → Hp → Prop}
    (k : ∀ σ', Stt X.K F M δ' σ' H → L2.wipe σ' (own.map (·.2)) = L2.wipe σ (own.map (·.2)) → K' σ' H) : g x (L2.wipe σ (own.map (·.2))) H K' := by
  cases T with
  | @one y i _ hi hx =>
    subst hb
    refine k _ ((S.wipe [i]).setSlot r) ?_
    show ((σ.set i none).set i (some x)).set i none = σ.set i none
    rw [List.set_set, List.set_set]
  | @two y z i j _ _ _ _ hi hj hij hx hy =>
    obtain ⟨d1, d2, rfl, rfl⟩ := hb
    obtain ⟨a, vs, rfl, e1, e2⟩ := S.readT r
    obtain ⟨v, w, rfl, r1, r2⟩ := e2.two
    refine ⟨a, [v, w], rfl, e1, rfl, v, [w], rfl, w, [], rfl, rfl, k _ (((S.wipe [i, j]).setSlot r1).setSlot r2) ?_⟩
    show (((((σ.set j none).set i none).set i (some v)).set j (some w)).set j none).set i none = (σ.set j none).set i none
    rw [List.set_set, List.set_set, List.set_comm _ _ hij, List.set_set, List.set_set, List.set_comm _ _ (Ne.symm hij)]
  | @three y z u2 i j k4 _ _ _ _ _ hi hj hk hne hx hy hz =>
    obtain ⟨d1, d2, d3, rfl, rfl⟩ := hb
    obtain ⟨a, vs, rfl, e1, e2⟩ := S.readT r
    obtain ⟨v, w, u, rfl, r1, r2, r3⟩ := e2.three
    refine ⟨a, [v, w, u], rfl, e1, rfl, v, [w, u], rfl, w, [u], rfl, u, [], rfl, rfl, k _ ((((S.wipe [i, j, k4]).setSlot r1).setSlot r2).setSlot r3) ?_⟩
    refine List.ext_getElem? fun n => ?_
    show (((((((((σ.set k4 none).set j none).set i none).set i (some v)).set j (some w)).set k4 (some u)).set k4 none).set j none).set i none)[n]? = (((σ.set k4 none).set j none).set i none)[n]?
    simp only [List.getElem?_set, List.length_set]
    by_cases a1 : i = n <;> by_cases a2 : j = n <;> by_cases a3 : k4 = n <;> simp [a1, a2, a3]
  | @four y z u2 u3 i j k4 l4 _ _ _ _ _ _ _ _ _ _ hi hj hk hl hne hx hy hz hu =>
    obtain ⟨d1, d2, d3, d4, rfl, rfl⟩ := hb
    obtain ⟨a, vs, rfl, e1, e2⟩ := S.readT r
    obtain ⟨v, w, rfl, r1, r2⟩ := e2.two
    obtain ⟨a1, vs1, rfl, e11, e12⟩ := S.readT r1
    obtain ⟨a2, vs2, rfl, e21, e22⟩ := S.readT r2
    obtain ⟨v1, w1, rfl, r11, r12⟩ := e12.two
    obtain ⟨v2, w2, rfl, r21, r22⟩ := e22.two
    refine ⟨a, [_, _], rfl, e1, rfl, _, [_], rfl, a1, [v1, w1], rfl, e11, rfl, v1, [w1], rfl, w1, [], rfl, rfl, _, [], rfl, a2, [v2, w2], rfl, e21, rfl, v2, [w2], rfl, w2, [], rfl, rfl, rfl, k _ (((((S.wipe [i, j, k4, l4]).setSlot r11).setSlot r12).setSlot r21).setSlot r22) ?_⟩
    refine List.ext_getElem? fun n => ?_
    show ((((((((((((σ.set l4 none).set k4 none).set j none).set i none).set i (some v1)).set j (some w1)).set k4 (some v2)).set l4 (some w2)).set l4 none).set k4 none).set j none).set i none)[n]? = ((((σ.set l4 none).set k4 none).set j none).set i none)[n]?
    simp only [List.getElem?_set, List.length_set]
    by_cases a1 : i = n <;> by_cases a2 : j = n <;> by_cases a3 : k4 = n <;> by_cases a4 : l4 = n <;> simp [a1, a2, a3, a4]
/-- a block's tests -/
def Tt (K : PySem.W.Frag) (tt : TT) (δ : Slots) (M : Cells) (Q : Bool → Cells → Prop) : Prop := ∀ σ H F (Q' : Bool → Hp → Prop), Stt K F M δ σ H → (∀ k H', upT K F δ σ Q k H' → Q' k H') → tt σ H Q'
/-- a list comprehension with one for, as an expression or as what a name is set to -/
def LC (X : Cx) (P : XP) (elt tg iter : Expr) (ifs : List Expr) (scope : Scope) (δ : Slots) (M : Cells) (Q : D → Cells → Prop) : Prop :=
  ∃ (own : List (Str × Nat)) (g : TG) (tt : TT) (te : TE), BlkOk X.N X.env.scope scope own ∧ (∀ (s : Shared) (H : Hp) (C : Addr) (cl : List (Str × Addr)) (fp : List Addr), PG (X.blk s H scope (compEnvC scope cl C X.env) fp) tg g) ∧
    (∀ (s : Shared) (H : Hp) (C : Addr) (cl : List (Str × Addr)) (fp : List Addr), PTs (X.blk s H scope (compEnvC scope cl C X.env) fp) ifs tt) ∧ (∀ (s : Shared) (H : Hp) (C : Addr) (cl : List (Str × Addr)) (fp : List Addr), PE (X.blk s H scope (compEnvC scope cl C X.env) fp) elt te) ∧
    (∀ x, foldedSetIterable iter X.env x = pure x) ∧ ∀ σ H F (Q' : VK), Go X P F M δ σ H → (∀ v H', upE X.K F δ σ Q v H' → Q' v H') → tLc (tI X tg iter) g tt te (own.map (·.2)) σ H Q'
theorem we_ofLC {Q : D → Cells → Prop} (N : Nice X) (h : LC X P elt tg iter ifs scope δ M Q) : WE X P (.ListComp elt [⟨tg, iter, ifs, 0⟩] scope pos) δ M Q := by
  obtain ⟨own, g, tt, te, ok, pg, pts, pe, hs, r⟩ := h
  exact we_of (pe_lc N.calm N.nd pi_sem ok pg pts pe hs) fun σ H F G => r σ H F _ G fun _ _ z => z
/-- name = [..] on one line, the name a local -/
theorem ws_setLC {E : En} {i : Nat} {y : Str} {py spos : Pos} (N : Nice X) (hi : X.N[i]? = some y) (hyl : X.env.scope.names.lookup y = some .local) (h : LC X P elt tg iter ifs scope δ M fun d M' => E.nx (δ.set i (some d)) M')
    (hk : X.env.scope.kind = .function := by rfl) (hl : (py.line == pos.line) = true := by rfl) (ha : (scope.names.any fun (n, k) => n == y && (k == .local || k == .cell)) = false := by rfl) :
    WS X P (.Assign [.Name y py] (.ListComp elt [⟨tg, iter, ifs, 0⟩] scope pos) spos) δ M E := by
  obtain ⟨own, g, tt, te, ok, pg, pts, pe, hs, r⟩ := h
  exact ws_of (ps_setLc N.calm N.nd hi hyl (sw_true hk hyl hl ha) pi_sem ok pg pts pe hs) fun σ H F G => r σ H F _ G fun v H' ⟨F', M', d, s, S, rr, q⟩ => nx_ (S.setSlot rr) s q
theorem lc_froz (k : Nat) {Q : D → Cells → Prop} (h : LC X P elt tg iter ifs scope δ M fun d M1 => ∃ (p : Addr) (ds : List D), d = .cel p ∧ M1[k]? = some (p, .lst ds) ∧ Q (.lst ds) (M1.eraseIdx k)) : LC X P elt tg iter ifs scope δ M Q := by
  obtain ⟨own, g, tt, te, ok, pg, pts, pe, hs, r⟩ := h
  refine ⟨own, g, tt, te, ok, pg, pts, pe, hs, fun σ H F Q' G k' => r σ H F Q' G fun v H' ⟨F1, M1, d, s1, S1, r1, p, ds, e, hk, q⟩ => ?_⟩
  subst e
  cases r1
  obtain ⟨F2, s2, S2, r2⟩ := S1.freeze hk
  exact k' _ _ (ret S2 (s1.trans s2) r2 q)
theorem lc_main (N : Nice X) (T : Tg X scope tg own bind g) (ok : BlkOk X.N X.env.scope scope own) {tt : TT} (ht : ∀ (s : Shared) (H : Hp) (C : Addr) (cl : List (Str × Addr)) (fp : List Addr), PTs (X.blk s H scope (compEnvC scope cl C X.env) fp) ifs tt) {Q : D → Cells → Prop}
    (h : WI X P tg iter δ M fun ds Sb M1 => ∃ J : Nat → List D → Cells → Prop, J 0 [] M1 ∧ (∀ i acc M' p, i ≤ ds.length → J i acc M' → Sb ((p, .lst acc) :: M')) ∧
      (∀ i d acc M' p, ds[i]? = some d → J i acc M' → ∃ δ', bind d (wipeD δ (own.map (·.2))) δ' ∧ Tt X.K tt δ' ((p, .lst acc) :: M') fun k M2 =>
        if k = true then ∀ B : BK, WE (Bx X scope B) PX0 elt δ' M2 fun y M3 => ∃ acc' M4, M3 = (p, .lst acc') :: M4 ∧ acc'.length < sizeLine ∧ J (i + 1) (acc' ++ [y]) M4
        else ∃ acc' M4, M2 = (p, .lst acc') :: M4 ∧ J (i + 1) acc' M4) ∧
      ∀ acc M' p, J ds.length acc M' → Q (.cel p) ((p, .lst acc) :: M'))
    (hs : ∀ x, foldedSetIterable iter X.env x = pure x) : LC X P elt tg iter ifs scope δ M Q := by
  refine ⟨own, g, tt, fun σ H Q => ∀ B : BK, tE (Bx X scope B) elt σ H Q, ok, T.pg N, ht, fun s H C cl fp => ⟨fun pins s' σ H' Q I h => h ⟨s, H, C, cl, fp⟩ pins s' I⟩, hs, fun σ H F Q' G kq => ?_⟩
  refine (h σ H F G).mono fun J H1 ⟨F1, M1, ds, Sb, s1, S1, wk, Jv, j0, jS, jT, jE⟩ => fun D hD => ?_
  refine ⟨fun i m H' => m = ds.length - i ∧ i ≤ ds.length ∧ ∃ F' M' acc, Same F1 F' ∧ Stt X.K F' ((D, .lst acc) :: M') δ σ H' ∧ Jv i acc M', ⟨ds.length, by simp, Nat.zero_le _, F1, M1, [], Same.refl _, S1.newL hD .nil, j0⟩, ?_⟩
  rintro i m H2 ⟨rfl, hi, F2, M2, acc, s2, S2, j2⟩
  obtain ⟨wg, ws, wy⟩ := wk F2 _ δ σ H2 s2 S2 (jS i acc M2 D hi j2)
  by_cases hlt : i < ds.length
  · refine .inr ⟨wg i hlt, fun H' => ∃ F' M' acc', Same F1 F' ∧ Stt X.K F' ((D, .lst acc') :: M') δ σ H' ∧ Jv (i + 1) acc' M', fun H' ⟨F', M', acc', s', S', j'⟩ => ⟨ds.length - (i + 1), by omega, rfl, hlt, F', M', acc', s', S', j'⟩, fun x H3 y => ?_⟩
    obtain ⟨F3, d, s3, S3, hd, r3⟩ := wy i x H3 hlt y
    obtain ⟨δ', hb, hT⟩ := jT i d acc M2 D hd j2
    refine T.run S3 r3 hb fun σ' S' ew => ⟨ew, hT σ' H3 F3 _ S' fun k H4 ⟨F4, M4, s4, S4, q4⟩ => ?_⟩
    have s14 : Same F1 F4 := (s2.trans s3).trans s4
    cases k with
    | false =>
      rw [if_neg (by decide)] at q4 ⊢
      obtain ⟨acc', M5, rfl, j5⟩ := q4
      exact ⟨F4, M5, acc', s14, S4.keep S1 s14, j5⟩
    | true =>
      rw [if_pos rfl] at q4 ⊢
      intro B
      refine (q4 B).go ⟨S4, TakesP.none⟩ fun yv H5 F5 M5 yd s5 G5 r5 q5 => ?_
      obtain ⟨acc', M6, rfl, hl, j6⟩ := q5
      obtain ⟨vs, e1, e2, e3⟩ := G5.st.cellAt (List.Mem.head _)
      have S6 := G5.st.setCell (k := 0) (c' := .lst (acc' ++ [yd])) rfl ⟨vs ++ [yv], upd_same, e3.append (.cons r5 .nil)⟩
      exact ⟨vs, e1, by rw [e3.length]; exact hl, F5, M6, acc' ++ [yd], s14.trans s5, Stt.keep (K := X.K) S6 S1 (s14.trans s5), j6⟩
  · have e : i = ds.length := by omega
    subst e
    exact .inl ⟨ws, kq _ _ (ret S2 (s1.trans s2) (.cel D) (jE acc M2 D j2))⟩
/-- no test -/
theorem lc_lc (N : Nice X) (T : Tg X scope tg own bind g) (ok : BlkOk X.N X.env.scope scope own) {Q : D → Cells → Prop}
    (h : WI X P tg iter δ M fun ds Sb M1 => ∃ J : Nat → List D → Cells → Prop, J 0 [] M1 ∧ (∀ i acc M' p, i ≤ ds.length → J i acc M' → Sb ((p, .lst acc) :: M')) ∧
      (∀ i d acc M' p, ds[i]? = some d → J i acc M' → ∃ δ', bind d (wipeD δ (own.map (·.2))) δ' ∧ ∀ B : BK, WE (Bx X scope B) PX0 elt δ' ((p, .lst acc) :: M') fun y M3 => ∃ acc' M4, M3 = (p, .lst acc') :: M4 ∧ acc'.length < sizeLine ∧ J (i + 1) (acc' ++ [y]) M4) ∧
      ∀ acc M' p, J ds.length acc M' → Q (.cel p) ((p, .lst acc) :: M'))
    (hs : ∀ x, foldedSetIterable iter X.env x = pure x := by intro _; rfl) : LC X P elt tg iter [] scope δ M Q := by
  refine lc_main N T ok (fun _ _ _ _ _ => pts_nil) ?_ hs
  intro σ H F G
  refine (h σ H F G).mono fun J H1 ⟨F1, M1, ds, Sb, s1, S1, wk, Jv, j0, jS, jT, jE⟩ => ⟨F1, M1, ds, Sb, s1, S1, wk, Jv, j0, jS, fun i d acc M' p hd j => ?_, jE⟩
  obtain ⟨δ', hb, hB⟩ := jT i d acc M' p hd j
  exact ⟨δ', hb, fun σ H F Q' S k => k true H ⟨F, _, Same.refl _, S, by show (if true = true then _ else _); rw [if_pos rfl]; exact hB⟩⟩
/-- one test -/
theorem lc_lcIf (N : Nice X) (T : Tg X scope tg own bind g) (ok : BlkOk X.N X.env.scope scope own) {Q : D → Cells → Prop}
    (h : WI X P tg iter δ M fun ds Sb M1 => ∃ J : Nat → List D → Cells → Prop, J 0 [] M1 ∧ (∀ i acc M' p, i ≤ ds.length → J i acc M' → Sb ((p, .lst acc) :: M')) ∧
      (∀ i d acc M' p, ds[i]? = some d → J i acc M' → ∃ δ', bind d (wipeD δ (own.map (·.2))) δ' ∧ ∀ B : BK, WT (Bx X scope B) PX0 c δ' ((p, .lst acc) :: M') fun k M2 =>
        if k = true then ∀ B : BK, WE (Bx X scope B) PX0 elt δ' M2 fun y M3 => ∃ acc' M4, M3 = (p, .lst acc') :: M4 ∧ acc'.length < sizeLine ∧ J (i + 1) (acc' ++ [y]) M4
        else ∃ acc' M4, M2 = (p, .lst acc') :: M4 ∧ J (i + 1) acc' M4) ∧
      ∀ acc M' p, J ds.length acc M' → Q (.cel p) ((p, .lst acc) :: M'))
    (hs : ∀ x, foldedSetIterable iter X.env x = pure x := by intro _; rfl) : LC X P elt tg iter [c] scope δ M Q := by
  refine lc_main (tt := fun σ H Q => ∀ B : BK, tT (Bx X scope B) c σ H Q) N T ok (fun s H C cl fp => pts_one ⟨fun pins s' σ H' Q I h => h ⟨s, H, C, cl, fp⟩ pins s' I⟩) ?_ hs
  intro σ H F G
  refine (h σ H F G).mono fun J H1 ⟨F1, M1, ds, Sb, s1, S1, wk, Jv, j0, jS, jT, jE⟩ => ⟨F1, M1, ds, Sb, s1, S1, wk, Jv, j0, jS, fun i d acc M' p hd j => ?_, jE⟩
  obtain ⟨δ', hb, hB⟩ := jT i d acc M' p hd j
  exact ⟨δ', hb, fun σ H F Q' S k B => (hB B).go ⟨S, TakesP.none⟩ fun v H' F' M' s G' q => k v H' ⟨F', M', s, G'.st, q⟩⟩
/-- the elements by a function of the item, the cells as they were -/
theorem lc_lcM (f : D → D) (N : Nice X) (T : Tg X scope tg own bind g) (ok : BlkOk X.N X.env.scope scope own) {Q : D → Cells → Prop}
    (h : WI X P tg iter δ M fun ds Sb M1 => ds.length ≤ sizeLine ∧ (∀ p acc, Sb ((p, .lst acc) :: M1)) ∧
      (∀ (i : Nat) d acc p, ds[i]? = some d → ∃ δ', bind d (wipeD δ (own.map (·.2))) δ' ∧ ∀ B : BK, WE (Bx X scope B) PX0 elt δ' ((p, .lst acc) :: M1) fun y M3 => M3 = (p, .lst acc) :: M1 ∧ y = f d) ∧
      ∀ p, Q (.cel p) ((p, .lst (ds.map f)) :: M1))
    (hs : ∀ x, foldedSetIterable iter X.env x = pure x := by intro _; rfl) : LC X P elt tg iter [] scope δ M Q := by
  refine lc_lc N T ok ?_ hs
  intro σ H F G
  refine (h σ H F G).mono fun J H1 ⟨F1, M1, ds, Sb, s1, S1, wk, hl, hS, hT, hE⟩ => ⟨F1, M1, ds, Sb, s1, S1, wk, fun i acc M' => M' = M1 ∧ acc = (ds.take i).map f, ⟨rfl, by simp⟩, fun i acc M' p hi ⟨e1, e2⟩ => by subst e1; exact hS p acc, fun i d acc M' p hd ⟨e1, e2⟩ => ?_, fun acc M' p ⟨e1, e2⟩ => by subst e1 e2; simpa using hE p⟩
  subst e1
  obtain ⟨δ', hb, hB⟩ := hT i d acc p hd
  have hi := (List.getElem?_eq_some_iff.mp hd).1
  refine ⟨δ', hb, fun B => (hB B).imp fun y M3 ⟨e3, e4⟩ => ⟨acc, _, e3, ?_, rfl, ?_⟩⟩
  · rw [e2, List.length_map, List.length_take]; omega
  · rw [e4, e2, List.take_succ, hd]; simp
/-- and a test by a function of the item -/
theorem lc_lcF (k : D → Bool) (f : D → D) (N : Nice X) (T : Tg X scope tg own bind g) (ok : BlkOk X.N X.env.scope scope own) {Q : D → Cells → Prop}
    (h : WI X P tg iter δ M fun ds Sb M1 => ds.length ≤ sizeLine ∧ (∀ p acc, Sb ((p, .lst acc) :: M1)) ∧
      (∀ (i : Nat) d acc p, ds[i]? = some d → ∃ δ', bind d (wipeD δ (own.map (·.2))) δ' ∧ ∀ B : BK, WT (Bx X scope B) PX0 c δ' ((p, .lst acc) :: M1) fun z M2 => M2 = (p, .lst acc) :: M1 ∧ z = k d ∧ (k d = true → ∀ B : BK, WE (Bx X scope B) PX0 elt δ' ((p, .lst acc) :: M1) fun y M3 => M3 = (p, .lst acc) :: M1 ∧ y = f d)) ∧
      ∀ p, Q (.cel p) ((p, .lst ((ds.filter k).map f)) :: M1))
    (hs : ∀ x, foldedSetIterable iter X.env x = pure x := by intro _; rfl) : LC X P elt tg iter [c] scope δ M Q := by
  refine lc_lcIf N T ok ?_ hs
  intro σ H F G
  refine (h σ H F G).mono fun J H1 ⟨F1, M1, ds, Sb, s1, S1, wk, hl, hS, hT, hE⟩ => ⟨F1, M1, ds, Sb, s1, S1, wk, fun i acc M' => M' = M1 ∧ acc = ((ds.take i).filter k).map f, ⟨rfl, by simp⟩, fun i acc M' p hi ⟨e1, e2⟩ => by subst e1; exact hS p acc, fun i d acc M' p hd ⟨e1, e2⟩ => ?_, fun acc M' p ⟨e1, e2⟩ => by subst e1 e2; simpa using hE p⟩
  subst e1
  obtain ⟨δ', hb, hB⟩ := hT i d acc p hd
  have hi := (List.getElem?_eq_some_iff.mp hd).1
  refine ⟨δ', hb, fun B => (hB B).imp fun z M2 ⟨e3, e4, e5⟩ => ?_⟩
  subst e3 e4
  have el : acc.length < sizeLine := by
    rw [e2, List.length_map]
    have := List.length_filter_le k (ds.take i)
    rw [List.length_take] at this; omega
  cases hk : k d with
  | false =>
    rw [if_neg (by decide)]
    refine ⟨acc, _, rfl, rfl, ?_⟩
    rw [e2, List.take_succ, hd]; simp [hk]
  | true =>
    rw [if_pos rfl]
    refine fun B => (e5 hk B).imp fun y M3 ⟨e6, e7⟩ => ⟨acc, _, e6, el, rfl, ?_⟩
    rw [e7, e2, List.take_succ, hd]; simp [hk]

theorem we_lc (N : Nice X) (T : Tg X scope tg own bind g) (ok : BlkOk X.N X.env.scope scope own) {Q : D → Cells → Prop}
    (h : WI X P tg iter δ M fun ds Sb M1 => ∃ J : Nat → List D → Cells → Prop, J 0 [] M1 ∧ (∀ i acc M' p, i ≤ ds.length → J i acc M' → Sb ((p, .lst acc) :: M')) ∧
      (∀ i d acc M' p, ds[i]? = some d → J i acc M' → ∃ δ', bind d (wipeD δ (own.map (·.2))) δ' ∧ ∀ B : BK, WE (Bx X scope B) PX0 elt δ' ((p, .lst acc) :: M') fun y M3 => ∃ acc' M4, M3 = (p, .lst acc') :: M4 ∧ acc'.length < sizeLine ∧ J (i + 1) (acc' ++ [y]) M4) ∧
      ∀ acc M' p, J ds.length acc M' → Q (.cel p) ((p, .lst acc) :: M'))
    (hs : ∀ x, foldedSetIterable iter X.env x = pure x := by intro _; rfl) : WE X P (.ListComp elt [⟨tg, iter, [], 0⟩] scope pos) δ M Q := we_ofLC N (lc_lc N T ok h hs)
theorem we_lcM (f : D → D) (N : Nice X) (T : Tg X scope tg own bind g) (ok : BlkOk X.N X.env.scope scope own) {Q : D → Cells → Prop}
    (h : WI X P tg iter δ M fun ds Sb M1 => ds.length ≤ sizeLine ∧ (∀ p acc, Sb ((p, .lst acc) :: M1)) ∧
      (∀ (i : Nat) d acc p, ds[i]? = some d → ∃ δ', bind d (wipeD δ (own.map (·.2))) δ' ∧ ∀ B : BK, WE (Bx X scope B) PX0 elt δ' ((p, .lst acc) :: M1) fun y M3 => M3 = (p, .lst acc) :: M1 ∧ y = f d) ∧
      ∀ p, Q (.cel p) ((p, .lst (ds.map f)) :: M1))
    (hs : ∀ x, foldedSetIterable iter X.env x = pure x := by intro _; rfl) : WE X P (.ListComp elt [⟨tg, iter, [], 0⟩] scope pos) δ M Q := we_ofLC N (lc_lcM f N T ok h hs)
theorem we_lcF (k : D → Bool) (f : D → D) (N : Nice X) (T : Tg X scope tg own bind g) (ok : BlkOk X.N X.env.scope scope own) {Q : D → Cells → Prop}
    (h : WI X P tg iter δ M fun ds Sb M1 => ds.length ≤ sizeLine ∧ (∀ p acc, Sb ((p, .lst acc) :: M1)) ∧
      (∀ (i : Nat) d acc p, ds[i]? = some d → ∃ δ', bind d (wipeD δ (own.map (·.2))) δ' ∧ ∀ B : BK, WT (Bx X scope B) PX0 c δ' ((p, .lst acc) :: M1) fun z M2 => M2 = (p, .lst acc) :: M1 ∧ z = k d ∧ (k d = true → ∀ B : BK, WE (Bx X scope B) PX0 elt δ' ((p, .lst acc) :: M1) fun y M3 => M3 = (p, .lst acc) :: M1 ∧ y = f d)) ∧
      ∀ p, Q (.cel p) ((p, .lst ((ds.filter k).map f)) :: M1))
    (hs : ∀ x, foldedSetIterable iter X.env x = pure x := by intro _; rfl) : WE X P (.ListComp elt [⟨tg, iter, [c], 0⟩] scope pos) δ M Q := we_ofLC N (lc_lcF k f N T ok h hs)
theorem we_append {Q : D → Cells → Prop} (h : WE X P o δ M fun x M1 => ∃ q, x = .cel q ∧ (∃ (k : Nat) (ds : List D), M1[k]? = some (q, .lst ds)) ∧ WA X P [e] δ M1 fun ys M2 => ∃ (y : D) (k : Nat) (ds : List D), ys = [y] ∧ M2[k]? = some (q, .lst ds) ∧ ds.length < sizeLine ∧ Q .non (M2.set k (q, .lst (ds ++ [y]))))
    (hbase : attributeBase o "append" X.env (eval o X.env) = eval o X.env := by rfl)
    (hfew : ((backTo cpos (starEach [e] X.env)).all (fun x => !x.1) && (backToKw cpos (keywordEach [] X.env)).all (fun x => x.1.isSome)
      && decide (([e] : List Expr).length + ([] : List Keyword).length + (if ([] : List Keyword).isEmpty then 0 else 1) < 30)) = true := by rfl)
    (hline : (apos.endLine == cpos.line) = true := by rfl) (hs : starEach [e] X.env = (false, eval e X.env) :: starEach [] X.env := by rfl) (hplain : (backTo cpos (starEach [] X.env)).any (·.1) = false := by rfl) :
    WE X P (.Call (.Attribute o "append" apos) [e] [] cpos) δ M Q :=
  we_of (pe_bm PySem.F.plainAttrs_list PySem.F.slot_list_append PySem.F.type_list_append mt_append pe_sem pa_sem hbase hfew hline hs hplain) fun σ H F G => h.go G fun v H1 F1 M1 x s1 G1 r1 q1 => by
    obtain ⟨q, rfl, ⟨k0, ds0, hk0⟩, q1⟩ := q1
    cases r1
    obtain ⟨vs0, e0, _⟩ := G1.st.cellAt (List.mem_of_getElem? hk0)
    refine ⟨.inl ⟨rfl, vs0, .of e0⟩, q1.go G1 fun ws H2 F2 M2 ys s2 G2 r2 q2 => ?_⟩
    obtain ⟨y, k, ds, rfl, hk, hl, hq⟩ := q2
    obtain ⟨w, rfl, rw'⟩ := r2.one
    obtain ⟨vs, e1, e2, e3⟩ := G2.st.cellAt (List.mem_of_getElem? hk)
    refine ⟨q, vs, w, rfl, rfl, e1, by rw [e3.length]; exact hl, ?_⟩
    exact ret (G2.st.setCell (c' := .lst (ds ++ [y])) hk ⟨vs ++ [w], upd_same, e3.append (.cons rw' .nil)⟩) (s1.trans s2) .non hq
theorem we_extend {Q : D → Cells → Prop} (h : WE X P o δ M fun x M1 => ∃ q, x = .cel q ∧ (∃ (k : Nat) (ds : List D), M1[k]? = some (q, .lst ds)) ∧ WA X P [e] δ M1 fun ys M2 => ∃ (b : Addr) (k : Nat) (ds : List D) (j : Nat) (es : List D), ys = [.cel b] ∧ M2[k]? = some (q, .lst ds) ∧ M2[j]? = some (b, .lst es) ∧ ds.length + es.length ≤ sizeLine ∧ Q .non (M2.set k (q, .lst (ds ++ es))))
    (hbase : attributeBase o "extend" X.env (eval o X.env) = eval o X.env := by rfl)
    (hfew : ((backTo cpos (starEach [e] X.env)).all (fun x => !x.1) && (backToKw cpos (keywordEach [] X.env)).all (fun x => x.1.isSome)
      && decide (([e] : List Expr).length + ([] : List Keyword).length + (if ([] : List Keyword).isEmpty then 0 else 1) < 30)) = true := by rfl)
    (hline : (apos.endLine == cpos.line) = true := by rfl) (hs : starEach [e] X.env = (false, eval e X.env) :: starEach [] X.env := by rfl) (hplain : (backTo cpos (starEach [] X.env)).any (·.1) = false := by rfl) :
    WE X P (.Call (.Attribute o "extend" apos) [e] [] cpos) δ M Q :=
  we_of (pe_bm PySem.F.plainAttrs_list PySem.F.slot_list_extend PySem.F.type_list_extend mt_extend pe_sem pa_sem hbase hfew hline hs hplain) fun σ H F G => h.go G fun v H1 F1 M1 x s1 G1 r1 q1 => by
    obtain ⟨q, rfl, ⟨k0, ds0, hk0⟩, q1⟩ := q1
    cases r1
    obtain ⟨vs0, e0, _⟩ := G1.st.cellAt (List.mem_of_getElem? hk0)
    refine ⟨.inl ⟨rfl, vs0, .of e0⟩, q1.go G1 fun ws H2 F2 M2 ys s2 G2 r2 q2 => ?_⟩
    obtain ⟨b, k, ds, j, es, rfl, hk, hj, hl, hq⟩ := q2
    obtain ⟨w, rfl, rw'⟩ := r2.one
    cases rw'
    obtain ⟨vs, e1, e2, e3⟩ := G2.st.cellAt (List.mem_of_getElem? hk)
    obtain ⟨us, f1, f2, f3⟩ := G2.st.cellAt (List.mem_of_getElem? hj)
    refine ⟨q, b, vs, us, rfl, rfl, e1, f1, by rw [e3.length, f3.length]; exact hl, ?_⟩
    exact ret (G2.st.setCell (c' := .lst (ds ++ es)) hk ⟨vs ++ us, upd_same, e3.append f3⟩) (s1.trans s2) .non hq
end

abbrev TSp := List D → Cells → (D → Cells → Prop) → (Ex → Cells → Prop) → Prop
def spG (K : PySem.W.Frag) (T : TSp) : Sp := fun vs H Q E => ∃ F M ds, Stt K F M [] [] H ∧ Reps K F vs ds ∧
  T ds M (fun d M' => ∀ v F' H', Same F F' → Stt K F' M' [] [] H' → Rep K F' v d → Q v H') (fun x M' => ∀ cls d F' H', Same F F' → Stt K F' M' [] [] H' → ExIs K F' H' cls d x → E cls d H')
def startD (N : List Str) (ds : List D) : Slots := ds.map some ++ List.replicate (N.length - ds.length) none
theorem Stt.start {K : PySem.W.Frag} {F : Hp} {M : Cells} {H : Hp} (S : Stt K F M [] [] H) {N : List Str} {vs : List V} {ds : List D} (r : Reps K F vs ds) : Stt K F M (startD N ds) (L2.start N vs) H := by
  refine S.slots (by simp [startD, L2.start, r.length]) fun i d h => ?_
  unfold startD at h
  by_cases hi : i < ds.length
  · rw [List.getElem?_append_left (by simpa using hi), List.getElem?_map] at h
    cases e : ds[i]? with
    | none => rw [e] at h; cases h
    | some z =>
      rw [e] at h
      obtain ⟨v, h1, h2⟩ := r.get e
      cases h
      refine ⟨v, ?_, h2⟩
      unfold L2.start
      rw [List.getElem?_append_left (by simpa [r.length] using hi), List.getElem?_map, h1]; rfl
  · rw [List.getElem?_append_right (by simpa using hi), List.getElem?_replicate] at h
    split at h <;> cases h
theorem Stt.bare {K : PySem.W.Frag} {F : Hp} {M : Cells} {δ : Slots} {σ : L2.St} {H : Hp} (S : Stt K F M δ σ H) : Stt K F M [] [] H := S.slots rfl fun i d h => by simp at h
/-- the answer's wish may be weakened -/
def Mono (T : TSp) : Prop := ∀ ds M Q Q' E E', (∀ d M', Q d M' → Q' d M') → (∀ x M', E x M' → E' x M') → T ds M Q E → T ds M Q' E'
/-- a def known by its name -/
structure FD (P : Program) (w : World) (K : PySem.W.Frag) (mg : Str → Option Value) (base : Heap) (k : Nat) (x : Str) (n : Nat) (T : TSp) : Prop where
  mono : Mono T
  ex : ∃ f fd ps, mg x = some (.ref f) ∧ PySem.W.keepIn K (.ref f) = true ∧ ps.length = n ∧ Binds K fd ps [] ∧ FnOk P w K mg base (L2.CX P w) k f fd ps (spG K T)
section
variable {P : Program} {w : World} {K : PySem.W.Frag} {mg : Str → Option Value} {base : Heap}
abbrev cxF (P : Program) (w : World) (K : PySem.W.Frag) (mg : Str → Option Value) (base : Heap) (N : List Str) (qual : Str) (st : Stmt) (f : Addr) (cdv : Value) (A : Around) (outer : List Env) (s : Shared) (H : Hp) (E : XK) : Cx := cxOf (L2.CX P w) P w K mg base N qual (defScope st) f cdv A outer s H E
/-- THE RULE for a def -/
theorem fn_ok {x qual : Str} {st : Stmt} {f : Addr} {fd : FuncData} {N ps : List Str} {k n : Nat} {T : TSp} (Fn : L2.Fun K x qual st f fd) (S : FnScope N ps (defScope st)) (hn : ps.length = n) (len : ∀ ds M Q E, T ds M Q E → ds.length = n)
    (body : ∀ (cdv : Value) (A : Around) (outer : List Env) (s : Shared) (H : Hp) (E : XK), Nice (cxF P w K mg base N qual st f cdv A outer s H E) → Room k (cxF P w K mg base N qual st f cdv A outer s H E).A →
      ∀ ds M (Q : D → Cells → Prop) (X' : Ex → Cells → Prop), T ds M Q X' → WB (cxF P w K mg base N qual st f cdv A outer s H E) (fun x _ M' => X' x M') (defBody st) (startD N ds) M { nx := fun _ M' => Q .non M', rt := Q }) :
    FnOk P w K mg base (L2.CX P w) (k + 1) f fd ps (spG K T) := by
  refine Fn.okX S (fun vs H Q E ⟨F, M, ds, S', r, t⟩ => by rw [r.length, len _ _ _ _ t, hn]) fun cdv A outer s H vs Q E hr h => ?_
  obtain ⟨F, M, ds, S0, r, t⟩ := h
  have tk := takes_of (X := cxF P w K mg base N qual st f cdv A outer s H E) (E := E) rfl rfl rfl rfl
  have N0 : Nice (cxF P w K mg base N qual st f cdv A outer s H E) := ⟨rfl, S.nd, passes_of rfl⟩
  refine ⟨_, pss_sem, (body cdv A outer s H E N0 hr ds M _ _ t _ H F ⟨S0.start r, _, tk, fun cls d σ' H' ⟨F', M', δ', x, s', S', hx, q⟩ => q cls d F' H' s' S'.bare hx⟩).mono ⟨?_, ?_, fun _ _ ⟨_, _, _, _, _, q⟩ => q.elim, fun _ _ ⟨_, _, _, _, _, q⟩ => q.elim⟩⟩
  · rintro σ' H' ⟨F', M', δ', s', S', q⟩
    exact q .non F' H' s' S'.bare .non
  · rintro v H' ⟨F', M', δ', σ', d, s', S', r', q⟩
    exact q v F' H' s' S'.bare r'
theorem fd_ok {x qual : Str} {st : Stmt} {f : Addr} {fd : FuncData} {ps : List Str} {k n : Nat} {T : TSp} (Fn : L2.Fun K x qual st f fd) (hm : mg x = some (.ref f)) (hn : ps.length = n) (hb : Binds K fd ps []) (mono : Mono T) (h : FnOk P w K mg base (L2.CX P w) k f fd ps (spG K T)) : FD P w K mg base k x n T := ⟨mono, f, fd, ps, hm, Fn.kp, hn, hb, h⟩
end
section
variable {X : Cx} {P : XP} {F : Hp} {M : Cells} {δ : Slots} {σ : L2.St} {H : Hp} {e a b c o : Expr} {es : List Expr} {pos apos cpos p p2 : Pos}
/-- f(e, ..) -/
theorem we_call {x : Str} {k n : Nat} {T : TSp} {Q : D → Cells → Prop} (c : FD X.prog X.w X.K X.mg X.base k x n T) (hr : Room k X.A) (hg : Gl X x) (h : WA X P (e :: es) δ M fun ds M1 => T ds M1 Q (fun x M' => P x δ M'))
    (hdb : (x == ("__debug__" : Str)) = false := by decide) (he : starEach (e :: es) X.env = (false, eval e X.env) :: starEach es X.env := by rfl) (hpl : (backTo pos (starEach es X.env)).any (·.1) = false := by rfl) : WE X P (.Call (.Name x p) (e :: es) [] pos) δ M Q := by
  obtain ⟨f, fd, ps, hm, hk, hn, hb, Fo⟩ := c.ex
  intro σ H F G
  obtain ⟨W, tw, hw⟩ := G.tk
  intro pins s I
  refine (pe_callS Fo hr hg hm hk hb (E := fun σ cls d H => W cls d σ H) (fun σ => passAt tw σ) pa_sem hdb he hpl).run pins s σ H _ I ?_
  refine h.go G fun vs H1 F1 M1 ds s1 G1 r1 q1 => ⟨F1, M1, ds, G1.st.bare, r1, c.mono _ _ _ _ _ _ (fun d M' q v F' H' s' S' r' => ?_) (fun y M' q cls d F' H' s' S' hx => ?_) q1⟩
  · exact ret (S'.keep G1.st s') (s1.trans s') r' q
  · exact hw cls d σ H' ⟨F', M', δ, y, s1.trans s', S'.keep G1.st s', hx, q⟩
end
end PW
/-! PW6 -/
namespace PW
open PySem L2 PyProof.Rows
theorem iteD {p : Prop} [Decidable p] {A B : Prop} (h1 : p → A) (h2 : ¬ p → B) : if decide p = true then A else B := by
  by_cases h : p
  · rw [if_pos (decide_eq_true h)]; exact h1 h
  · rw [if_neg (by rw [decide_eq_false h]; decide)]; exact h2 h
theorem iteN {p : Prop} [Decidable p] {A B : Prop} (h1 : ¬ p → A) (h2 : p → B) : if (!decide p) = true then A else B := by
  by_cases h : p
  · rw [if_neg (by rw [decide_eq_true h]; decide)]; exact h2 h
  · rw [if_pos (by rw [decide_eq_false h]; rfl)]; exact h1 h
theorem iteT' {A B : Prop} (h : A) : if true = true then A else B := by rw [if_pos rfl]; exact h
theorem iteF' {A B : Prop} (h : B) : if false = true then A else B := by rw [if_neg (by decide)]; exact h
section
variable {X : Cx} {P : XP} {F : Hp} {M : Cells} {δ : Slots} {σ : L2.St} {H : Hp} {e a b c o : Expr} {es : List Expr} {pos apos cpos p p2 : Pos}
theorem we_globI {x : Str} {i : Int} {Q : D → Cells → Prop} (hg : Gl X x) (hm : ∃ t, X.mg x = some (.int i t)) (h : Q (.int i) M) (hd : (x == ("__debug__" : Str)) = false := by decide) : WE X P (.Name x pos) δ M Q := by
  obtain ⟨t, ht⟩ := hm
  exact we_glob (v := .int i) hg ht ⟨t, rfl⟩ (fun _ _ => .int i) h hd
end
theorem set_get {α : Type} {l : List α} {k : Nat} {x y : α} (h : l[k]? = some y) : (l.set k x)[k]? = some x := List.getElem?_set_self (List.getElem?_eq_some_iff.mp h).1
section
variable {X : Cx} {P : XP} {M : Cells} {δ : Slots} {st : Stmt} {rest : List Stmt} {E : En}
end
theorem room_le {j k : Nat} {A : Around} (h : Room k A) (l : j ≤ k) : Room j A := h.mono l
theorem log2_lt {i : Int} {n : Nat} (h : i.natAbs < 2 ^ n) (hn : 0 < n) : i.natAbs.log2 < n := by
  by_cases e : i.natAbs = 0
  · rw [e]; simpa using hn
  · exact (Nat.log2_lt e).mpr h
theorem intBits_le {i : Int} {n : Nat} (h : i.natAbs < 2 ^ n) : Builtin.Int.intBits i ≤ n := by
  unfold Builtin.Int.intBits
  split
  · omega
  · rename_i h0
    have : i.natAbs ≠ 0 := by intro z; apply h0; simpa using z
    have := (Nat.log2_lt this).mpr h
    omega
theorem mul_ok {i j : Int} {a b : Nat} (ha : i.natAbs < 2 ^ a) (hb : j.natAbs < 2 ^ b) (h1 : a ≤ 1048576) (h2 : b ≤ 1048576) : IntMulOk i j :=
  IntMulOk.of_bits (by have := intBits_le ha; have e : (2 : Nat) ^ 20 = 1048576 := by decide
                       omega) (by have := intBits_le hb; have e : (2 : Nat) ^ 20 = 1048576 := by decide
                                  omega)
end PW
/-! PWS -/
namespace PW
open PySem L2 PyProof.Rows
abbrev newSet (w : World) : Obj := { cls := .type "set", dict := none, data := .set #[] 0 (.fresh 0 0 (!w.params.followText "set-order")) }
section
variable {P : Program} {w : World} {A : Around} {E : Value → Shared → Prop} {s : Shared}
/-- the state with a new set laid -/
abbrev withSet (w : World) (s : Shared) : Shared := { s with heap := s.heap.push (newSet w) }
/-- set(v) is a new set, filled by set.__init__ -/
theorem call_set1 {v : Value} {Q : Value → Shared → Prop} (G : Shared → Prop) (k : ∀ s2, G s2 → Q (.ref s.heap.objs.size) s2)
    (h : ∀ A', A'.handled = A.handled → wpAny (model P w) A' (Builtin.«set.__init__» ⟨[.ref s.heap.objs.size, v], []⟩) (fun f s2 => f = .done (.ret .none) ∧ G s2) E (withSet w s)) :
    wpAny (model P w) A (call (.type "set") [v]) Q E s := by
  refine wpAny_call (codeAny_of_tree ?_)
  show wpAny _ _ (callAny (.type "set") _) _ _ _
  refine wpAny_pure ⟨Code.quiet_builtin _ (by decide +kernel), codeAny_builtin F.entry_type_call ?_⟩
  rw [Around.under_plain (weight_type_call_type "set" [v] []) rfl]
  have facts := F.called_set
  obtain ⟨cc, rest, mro⟩ := facts.mro
  have mk1 := facts.made
  have mk2 := facts.sub
  have mk3 := facts.notType
  have mk4 := facts.canCreate
  have mk5 := F.typeCall_set_1 v
  repeat (any_goals (first | assumption | wp_step))
  refine codeAny_mono (code_set_led1 v (E := E) (Q₁ := fun obj s₁ => obj = .ref s.heap.objs.size ∧ s₁ = withSet w s) ⟨rfl, rfl⟩) fun r s₁ hr => ?_
  match r, hr with
  | .error e, hr => exact hr
  | .ok (.ret obj), hr =>
    obtain ⟨rfl, rfl⟩ := hr
    have ty : Shared.TypeIs (withSet w s) (.ref s.heap.objs.size) "set" := ⟨_, Heap.get?_push_size _ rfl, rfl⟩
    have i1 := facts.init.lookup
    have i2 := facts.init.bind (.ref s.heap.objs.size)
    repeat (any_goals (first | assumption | wp_step))
    refine codeAny_mono (codeAny_call_builtin (R := wants (fun r s₂ => r = .none ∧ G s₂) E) facts.init.plain F.entry_set_init (check_set_init_1 ty ?_)) fun r₂ s₂ hr₂ => ?_
    · exact thn (h A.in1.in1 rfl) fun f s2 z => by
        obtain ⟨rfl, g⟩ := z
        exact ⟨rfl, g⟩
    · match r₂, hr₂ with
      | .error e, hr₂ => exact hr₂
      | .ok (.ret u), hr₂ =>
        obtain ⟨rfl, g⟩ := hr₂
        repeat (any_goals (first | assumption | wp_step))
        exact k _ g
/-- the new set holds the ints ns, all else stands as before -/
def Filled (w : World) (s : Shared) (ns : List Int) (s2 : Shared) : Prop :=
  ∃ (h' : Heap) (tk c : Nat), s2 = { s with heap := h', toks := tk } ∧ SetR w h' s.heap.objs.size (fun j => decide (j ∈ ns)) c ∧ c ≤ ns.length ∧ ∀ b o, s.heap.get? b = some o → h'.get? b = some o
theorem ints_val {items : Array Value} {ns : List Int} (hit : IntsAre items.toList ns) (i : Nat) (v : Value) (h : items[i]? = some v) : ∃ k t, ns[i]? = some k ∧ v = .int k t := by
  rw [← Array.getElem?_toList] at h
  have lt := (List.getElem?_eq_some_iff.mp h).1
  rw [IntsAre.length hit] at lt
  obtain ⟨t, rfl⟩ := IntsAre.int_at hit i v h
  have e := List.getElem?_eq_getElem lt
  refine ⟨_, t, e, ?_⟩
  rw [List.getD_eq_getElem?_getD, e]
  rfl
theorem fill_list {l : Addr} {items : Array Value} {ns : List Int} (hh : A.handled = none) (hl : s.heap.IsList l items) (hit : IntsAre items.toList ns) (hb : ns.length + 1 < scanBound) :
    wpAny (model P w) A (Builtin.«set.__init__» ⟨[.ref s.heap.objs.size, .ref l], []⟩) (fun f s2 => f = .done (.ret .none) ∧ Filled w s ns s2) E (withSet w s) := by
  have size_eq : items.size = ns.length := by rw [← Array.length_toList]; exact IntsAre.length hit
  -- the set is at S, the walk's own object at S + 1
  have there : (withSet w s).heap.IsList l items := hl.push _
  have l_old : l < s.heap.objs.size := by
    obtain ⟨o, e, _⟩ := hl
    exact Heap.lt_size e
  have grown : (withSet w s).heap.objs.size = s.heap.objs.size + 1 := Heap.size_push ..
  have l_walk : l ≠ (withSet w s).heap.objs.size := by rw [grown]; exact Nat.ne_of_lt (Nat.lt_succ_of_lt l_old)
  have set_at : (withSet w s).heap.get? s.heap.objs.size = some (newSet w) := Heap.get?_push_size _ rfl
  have cl : (Value.type "list" == Value.type "dict") = false := by decide
  have f1 := F.sub_list_set
  have f2 := F.sub_list_frozenset
  have lk : ∃ o, (withSet w s).heap.get? l = some o ∧ o.cls = .type "list" := by
    obtain ⟨o, e1, e2, _⟩ := there
    exact ⟨o, e1, e2⟩
  obtain ⟨⟨oc, od, odt, os⟩, lk1, lk2⟩ := lk
  simp only at lk2
  subst lk2
  unfold Builtin.«set.__init__» noKeywords Builtin.Frozenset.updateFrom
  generalize walker : pyIter = iter
  wp_walk
  subst walker
  refine wpAny_pyIter_list there ?_
  refine wpAny_bind (wpAny_runValue ?_)
  have nin : s.heap.objs.size ∉ [(withSet w s).heap.objs.size, l] := by
    rw [List.mem_cons, List.mem_singleton, grown]
    exact fun z => z.elim (Nat.ne_of_lt (Nat.lt_succ_self _)) fun z => Nat.ne_of_lt l_old z.symm
  refine set_update_ints (Walks.list (by simpa using hh) _ l l_walk items).toS s.heap.objs.size nin ns size_eq hb (ints_val hit) items.size 0 _ (Nat.sub_zero _) (Nat.zero_le _)
    ⟨⟨_, Heap.get?_push_size _ rfl, rfl, rfl⟩, there.push _⟩ ⟨0, Nat.le_refl 0, setR_new_at (Heap.get?_push_of_some _ set_at)⟩ ?_
  rintro ⟨h', gens', drawn', tk', os'⟩ c moved count held
  obtain ⟨keeps, e1, e2, e3, _⟩ := moved
  cases e1
  cases e2
  cases e3
  refine wpAny_pure (wpAny_pure ⟨rfl, h', tk', c, rfl, held, by omega, fun b o e => ?_⟩)
  have lt := Heap.lt_size e
  refine keeps b o ?_ (Heap.get?_push_of_some _ (Heap.get?_push_of_some _ e))
  rw [List.mem_cons, List.mem_singleton, grown]
  exact fun z => z.elim (Nat.ne_of_lt lt) (Nat.ne_of_lt (Nat.lt_succ_of_lt lt))
theorem set_lst {l : Addr} {items : Array Value} (ns : List Int) {Q : Value → Shared → Prop} (hh : A.handled = none) (hl : s.heap.IsList l items) (hit : IntsAre items.toList ns) (hb : ns.length + 1 < scanBound)
    (h : ∀ (h' : Heap) (tk c : Nat), SetR w h' s.heap.objs.size (fun j => decide (j ∈ ns)) c → c ≤ ns.length → (∀ b o, s.heap.get? b = some o → h'.get? b = some o) → Q (.ref s.heap.objs.size) { s with heap := h', toks := tk }) :
    wpAny (model P w) A (call (.type "set") [.ref l]) Q E s :=
  call_set1 (Filled w s ns) (fun s2 ⟨h', tk, c, e, r, n, k⟩ => by rw [e]; exact h h' tk c r n k) fun A' hA => fill_list (hA.trans hh) hl hit hb
end
end PW
namespace PW
open PySem L2 PyProof.Rows
section
variable {X : Cx} {P : XP} {F : Hp} {M : Cells} {δ : Slots} {σ : L2.St} {H : Hp} {e a b c o : Expr} {es : List Expr} {pos apos cpos p p2 q : Pos}
def rSetL (K : PySem.W.Frag) (w : World) : List V → Hp → VK → Prop := fun xs H Q => ∃ (l : Addr) (ns : List Int), xs = [.ref l] ∧ SqL K H l (ns.map V.int) ∧ ns.length ≤ 4000 ∧ ∀ p n, H p = none → n ≤ ns.length → Q (.ref p) (upd H p (SetO w p (fun j => decide (j ∈ ns)) n))
theorem cr_setL (hc : X.calm = true) : CallR X (.type "set") (rSetL X.K X.w) := by
  intro pins s σ H xs us Q I r h
  obtain ⟨l, ns, rfl, hl, hn, q⟩ := h
  rw [Vals.ref1 r]
  obtain ⟨its, rv, pl, hz⟩ := I.list hl
  have hn' : H s.heap.objs.size = none := I.hok.fresh (Nat.le_refl _)
  refine set_lst (P := X.prog) (w := X.w) ns (I.ok.hd hc) pl.isList (by simpa using rv.ints) (by unfold scanBound; omega) fun h' tk c R hc' k => ?_
  exact ⟨.ref s.heap.objs.size, upd H s.heap.objs.size (SetO X.w s.heap.objs.size (fun j => decide (j ∈ ns)) c), I.laid (t' := tk) k (Nat.le_refl _) (setO_new R), rfl, q _ _ hn' hc'⟩
/-- sorted(set(xs)), ints -/
theorem we_sortedSet {Q : D → Cells → Prop} (hc : X.calm = true) (hg : Gl X "sorted") (hm : X.mg "sorted" = none) (hg2 : Gl X "set") (hm2 : X.mg "set" = none)
    (h : WE X P a δ M fun d M1 => ∃ ns : List Int, LV M1 d (ns.map D.int) ∧ ns.length < 64 ∧ ∀ ns' : List Int, ns'.Pairwise (· < ·) → (∀ k, k ∈ ns' ↔ k ∈ ns) → ns'.length ≤ ns.length → Q (.lst (ns'.map D.int)) M1)
    (he2 : starEach [a] X.env = (false, eval a X.env) :: starEach [] X.env := by rfl) (hpl2 : (backTo q (starEach [] X.env)).any (·.1) = false := by rfl)
    (he : starEach [Expr.Call (.Name "set" p2) [a] [] q] X.env = (false, eval (Expr.Call (.Name "set" p2) [a] [] q) X.env) :: starEach [] X.env := by rfl) (hpl : (backTo pos (starEach [] X.env)).any (·.1) = false := by rfl) :
    WE X P (.Call (.Name "sorted" p) [.Call (.Name "set" p2) [a] [] q] [] pos) δ M Q :=
  we_of (pe_callB (cr_sortedSet hc) hg hm (by decide +kernel) (pa_cons (pe_callTy (cr_setL hc) hg2 hm2 (by decide +kernel) (pa_cons pe_sem pa_nil he2) (by decide) (by decide) he2 hpl2) pa_nil he) (by decide) (by decide) he hpl) fun σ H F G =>
    h.go G fun v H1 F1 M1 d s1 G1 r1 q1 => by
      obtain ⟨ns, hl, hn, q1⟩ := q1
      obtain ⟨l, vs, rfl, e1, e2⟩ := G1.st.readL r1 hl
      rw [e2.ints_inv] at e1
      refine ⟨l, ns, rfl, e1, by omega, fun p n hp hle => ?_⟩
      refine ⟨p, _, n, rfl, upd_same, by omega, fun ns' p' h1 h2 h3 hp' => ?_⟩
      obtain ⟨S1, s1'⟩ := G1.st.froz (o := SetO X.w p (fun j => decide (j ∈ ns)) n) hp
      obtain ⟨S2, s2'⟩ := S1.froz (o := .lst (ns'.map V.int)) hp'
      exact ret S2 ((s1.trans s1').trans s2') (.lst (.of upd_same) (Reps.ints _)) (q1 ns' h1 (fun k => by rw [h2 k]; simp) (by omega))
end
end PW
/-! PW7 -/
namespace PW
open PySem L2 PyProof.Rows
section
variable {X : Cx} {P : XP} {F : Hp} {M : Cells} {δ : Slots} {σ : L2.St} {H : Hp} {e a b c o : Expr} {es : List Expr} {pos apos cpos p p2 q : Pos} {kws : List Keyword}
def RIx : RD2 := fun d e M Q => (∃ ds i z, LV M d ds ∧ e = .int i ∧ atI ds i = some z ∧ Q z M) ∨ (∃ ds i z, d = .tup ds ∧ e = .int i ∧ atI ds i = some z ∧ Q z M) ∨ (∃ z i c, d = .str z ∧ e = .int i ∧ z.length ≤ sizeLine ∧ atI z.cps.toList i = some c ∧ Q (.str ⟨#[c]⟩) M)
theorem ixR_or {r r' : R2} (h : IxR X r) (h' : IxR X r') : IxR X (fun x y H Q => r x y H Q ∨ r' x y H Q) := h.or h'
theorem we_ix {Q : D → Cells → Prop} (h : WE X P a δ M fun d M1 => WE X P b δ M1 fun e M2 => RIx d e M2 Q) (hs : PlainIx b) : WE X P (.Subscript a b pos) δ M Q :=
  we_of (pe_ix (ixR_or ix_list (ixR_or ix_tup ix_str)) pe_sem pe_sem hs) fun σ H F G => bind2 (fun _ _ z => z) (lift_ixL.or (lift_ixT.or lift_ixS)) h G
def RSl (d : D) (l u : Option Int) (M : Cells) (Q : D → Cells → Prop) : Prop := (∃ ds, LV M d ds ∧ Q (.lst (cutD ds l u)) M) ∨ ∃ z, d = .str z ∧ z.length ≤ sizeLine ∧ Q (.str (cutS z l u)) M
theorem we_sl {lo hi : Option Expr} {Q : D → Cells → Prop} (h : WE X P e δ M fun d M1 => WO X P lo δ M1 fun l M2 => WO X P hi δ M2 fun u M3 => RSl d l u M3 Q) : WE X P (.Subscript e (.Slice lo hi none p2) pos) δ M Q :=
  we_of (pe_slice (SlR.or sl_list sl_str) pe_sem po_sem po_sem) fun σ H F G => h.go G fun v H1 F1 M1 d s1 G1 r1 q1 => (q1 σ H1 F1 G1).mono fun l H2 ⟨F2, M2, s2, S2, q2⟩ => (q2 σ H2 F2 ⟨S2, G1.tk.up s2⟩).mono fun u H3 ⟨F3, M3, s3, S3, q3⟩ => by
    rcases q3 with ⟨ds, h1, q3⟩ | ⟨z, rfl, hz, q3⟩
    · obtain ⟨a, xs, rfl, e1, e2⟩ := S3.readL (r1.up (s2.trans s3)) h1
      refine .inl ⟨a, xs, rfl, e1, fun p hp => ?_⟩
      obtain ⟨S', s'⟩ := S3.froz (o := .lst (cutV xs l u)) hp
      exact ret S' (((s1.trans s2).trans s3).trans s') (.lst (.of upd_same) ((reps_cut e2 l u).up s')) q3
    · cases r1
      exact .inr ⟨z, rfl, hz, ret S3 ((s1.trans s2).trans s3) (.str _) q3⟩
theorem we_int2 {Q : D → Cells → Prop} (hg : Gl X "int") (hm : X.mg "int" = none) (h : WA X P [e] δ M fun ds M1 => (∃ i, ds = [.int i] ∧ Q (.int i) M1) ∨ (∃ k, ds = [.bl k] ∧ Q (.int (if k then 1 else 0)) M1) ∨ ∃ z n, ds = [.str z] ∧ PySem.intText? z = some n ∧ z.length ≤ 640 ∧ Q (.int n) M1) (he : starEach [e] X.env = (false, eval e X.env) :: starEach [] X.env := by rfl) (hpl : (backTo pos (starEach [] X.env)).any (·.1) = false := by rfl) : WE X P (.Call (.Name "int" p) [e] [] pos) δ M Q :=
  we_callTy (R := fun ds M1 Q => (∃ i, ds = [.int i] ∧ Q (.int i) M1) ∨ (∃ k, ds = [.bl k] ∧ Q (.int (if k then 1 else 0)) M1) ∨ ∃ z n, ds = [.str z] ∧ PySem.intText? z = some n ∧ z.length ≤ 640 ∧ Q (.int n) M1) (call_int1.or call_int_str) (fun k s S r h => by
    rcases h with ⟨i, rfl, q⟩ | ⟨i, rfl, q⟩ | ⟨z, n, rfl, h1, h2, q⟩
    · obtain ⟨v, rfl, r1⟩ := r.one
      cases r1
      exact .inl (.inl ⟨i, rfl, k _ _ (ret S s (.int _) q)⟩)
    · obtain ⟨v, rfl, r1⟩ := r.one
      cases r1
      exact .inl (.inr ⟨i, rfl, k _ _ (ret S s (.int _) q)⟩)
    · obtain ⟨v, rfl, r1⟩ := r.one
      cases r1
      exact .inr ⟨z, n, rfl, h1, h2, k _ _ (ret S s (.int _) q)⟩) hg hm (by decide +kernel) h (by decide) (by decide) he hpl
theorem reps_dOf {K : PySem.W.Frag} : ∀ {xs : List V} {vs : List V}, Reps K F vs (xs.map dOf) → vs = xs
  | [], _, h => by cases h; rfl
  | x :: xs, _, h => by cases h with | cons a b => rw [scal_rep x a rfl, reps_dOf b]
def RIn (neg : Bool) : RD2 := fun d e M Q => (∃ (x : V) (xs : List V), d = dOf x ∧ (LV M e (xs.map dOf) ∨ e = .tup (xs.map dOf)) ∧ flatV x = true ∧ xs.all flatV = true ∧ Q (.bl (if neg then !inV x xs else inV x xs)) M) ∨
  ∃ (c : Nat) (z : Str), d = .str ⟨#[c]⟩ ∧ e = .str z ∧ Q (.bl (if neg then !decide (c ∈ z.cps.toList) else decide (c ∈ z.cps.toList))) M
theorem lift_in {neg : Bool} : Lift2 X (fun x y H Q => rIn X.K neg x y H Q ∨ ∃ (c : Nat) (z : Str), x = .str ⟨#[c]⟩ ∧ y = .str z ∧ Q (.bl (if neg then !decide (c ∈ z.cps.toList) else decide (c ∈ z.cps.toList))) H) (RIn neg) := fun k s S r1 r2 h => by
  rcases h with ⟨x, xs, rfl, hl, h1, h2, q⟩ | ⟨c, z, rfl, rfl, q⟩
  · obtain ⟨a, vs, rfl, e1, e2⟩ := S.readLT r2 hl
    rw [reps_dOf e2] at e1
    rw [scal_rep x r1 rfl]
    exact .inl ⟨a, xs, rfl, e1, h1, h2, k _ _ (ret S s (.bl _) q)⟩
  · cases r1; cases r2
    exact .inr ⟨c, z, rfl, rfl, k _ _ (ret S s (.bl _) q)⟩
theorem op_notInG : OpR X (compareOp .NotIn) (fun x y H Q => rIn X.K true x y H Q ∨ ∃ (c : Nat) (z : Str), x = .str ⟨#[c]⟩ ∧ y = .str z ∧ Q (.bl (if true then !decide (c ∈ z.cps.toList) else decide (c ∈ z.cps.toList))) H) := op_notIn_seq.or op_notIn_sign
theorem wt_notIn {Q : Bool → Cells → Prop} (h : WE X P a δ M fun d M1 => WE X P b δ M1 fun e M2 => RIn true d e M2 (onB Q)) (hmk : behindInMarks .NotIn b = false := by rfl) : WT X P (.Compare a [.NotIn] [b] pos) δ M Q := wt_cmp op_notInG lift_in hmk h
def REq (neg : Bool) : RD2 := fun d e M Q => RScal neg d e M Q ∨ ∃ p q, PV M d p ∧ PV M e q ∧ SeqAt.shaped p = true ∧ SeqAt.shaped q = true ∧ Q (.bl (if neg then !PyData.eqv p q else PyData.eqv p q)) M
theorem we_eq {Q : D → Cells → Prop} (hu : X.A.units + 64 < cLine) (h : WE X P a δ M fun d M1 => WE X P b δ M1 fun e M2 => REq false d e M2 Q) : WE X P (.Compare a [.Eq] [b] pos) δ M Q := we_cmp (op_eq.or (op_eqD hu)) (lift_eqS.or lift_eqD) (nomark _) h
theorem wt_eq {Q : Bool → Cells → Prop} (hu : X.A.units + 64 < cLine) (h : WE X P a δ M fun d M1 => WE X P b δ M1 fun e M2 => REq false d e M2 (onB Q)) : WT X P (.Compare a [.Eq] [b] pos) δ M Q := wt_cmp (op_eq.or (op_eqD hu)) (lift_eqS.or lift_eqD) (nomark _) h
theorem wt_ne {Q : Bool → Cells → Prop} (hu : X.A.units + 64 < cLine) (h : WE X P a δ M fun d M1 => WE X P b δ M1 fun e M2 => REq true d e M2 (onB Q)) : WT X P (.Compare a [.NotEq] [b] pos) δ M Q := wt_cmp (op_ne.or (op_neD hu)) (lift_neS.or lift_neD) (nomark _) h
/-- m positional values, n by keyword, put in the order pi -/
def gp {α : Type} (m n : Nat) (pi : List Nat) (us ws : List α) : List α := if us.length = m ∧ ws.length = n then pi.filterMap ((us ++ ws)[·]?) else []
end
section
variable {P : Program} {w : World} {K : PySem.W.Frag} {mg : Str → Option Value} {base : Heap}
end
end PW
/-! PW8 -/
namespace PW
open PySem L2 PyProof.Rows
section
variable {M : Cells} {Q : D → Cells → Prop} {d : D} {ds : List D} {z : D}
theorem iteP {b : Bool} {A B : Prop} (hb : b = true) (h : A) : if b = true then A else B := by rw [if_pos hb]; exact h
theorem iteQ {b : Bool} {A B : Prop} (hb : b = false) (h : B) : if b = true then A else B := by rw [if_neg (by rw [hb]; decide)]; exact h
theorem req_i {i j : Int} (h : Q (.bl (decide (i = j))) M) : REq false (.int i) (.int j) M Q := .inl ⟨.int i, .int j, rfl, rfl, rfl, by
  have e : decide (V.int i = V.int j) = decide (i = j) := by simp
  rw [if_neg (by decide), e]; exact h⟩
theorem req_iN {i j : Int} (h : Q (.bl (!decide (i = j))) M) : REq true (.int i) (.int j) M Q := .inl ⟨.int i, .int j, rfl, rfl, rfl, by
  have e : decide (V.int i = V.int j) = decide (i = j) := by simp
  rw [if_pos rfl, e]; exact h⟩
theorem req_dN {d e : D} {p q : PyData} (h1 : PV M d p) (h2 : PV M e q) (s1 : SeqAt.shaped p = true) (s2 : SeqAt.shaped q = true) (h : Q (.bl (!PyData.eqv p q)) M) : REq true d e M Q := .inr ⟨p, q, h1, h2, s1, s2, by rw [if_pos rfl]; exact h⟩
theorem isi1 {t n : String} {b : Bool} (ht : TyA M d t) (hn : n ∈ ["bool", "int", "str", "tuple", "list", "dict"]) (hb : isT t n = b) (q : Q (.bl b) M) : RIsi [d, .raw (.ty n)] M Q ∨ RIsiT [d, .raw (.ty n)] M Q := .inl ⟨d, t, n, rfl, ht, hn, by rw [hb]; exact q⟩
theorem nr_int {i : Int} {A : Prop} (h : A) : (∀ v, D.int i ≠ D.raw v) ∧ A := ⟨fun v e => (by cases e), h⟩
theorem nr_non {A : Prop} (h : A) : (∀ v, D.non ≠ D.raw v) ∧ A := ⟨fun v e => (by cases e), h⟩
def CL (M : Cells) (b : Addr) (R : List D → (List D → Cells) → Prop) : Prop := ∃ (k : Nat) (ds : List D), M[k]? = some (b, .lst ds) ∧ R ds (fun ds' => M.set k (b, .lst ds'))
theorem cl_k {b : Addr} {R : List D → (List D → Cells) → Prop} {k : Nat} {ds : List D} (h : M[k]? = some (b, .lst ds)) (r : R ds (fun ds' => M.set k (b, .lst ds'))) : CL M b R := ⟨k, ds, h, r⟩
theorem cl_set {b : Addr} {R : List D → (List D → Cells) → Prop} {k : Nat} {ds : List D} {c : Addr × Cell} (h : M[k]? = some c) (r : R ds (fun ds' => M.set k (b, .lst ds'))) : CL (M.set k (b, .lst ds)) b R := ⟨k, ds, set_get h, by
  have e : (fun ds' => (M.set k (b, Cell.lst ds)).set k (b, Cell.lst ds')) = fun ds' => M.set k (b, Cell.lst ds') := by funext ds'; exact List.set_set ..
  rw [e]; exact r⟩
theorem cl_0 {b : Addr} {R : List D → (List D → Cells) → Prop} {ds : List D} (r : R ds (fun ds' => (b, .lst ds') :: M)) : CL ((b, .lst ds) :: M) b R := ⟨0, ds, rfl, r⟩
theorem cl_skip {b : Addr} {R : List D → (List D → Cells) → Prop} {p : Addr × Cell} (r : CL M b fun ds f => R ds (fun ds' => p :: f ds')) : CL (p :: M) b R := let ⟨k, ds, h, r⟩ := r; ⟨k + 1, ds, h, r⟩
theorem rix_cl {b : Addr} {i : Int} (h : CL M b fun ds _ => ∃ z, atI ds i = some z ∧ Q z M) : RIx (.cel b) (.int i) M Q := let ⟨k, ds, h1, z, h2, h3⟩ := h; .inl ⟨ds, i, z, .c k h1, rfl, h2, h3⟩
theorem rix_l {i : Int} (h : ∃ z, atI ds i = some z ∧ Q z M) : RIx (.lst ds) (.int i) M Q := let ⟨z, h2, h3⟩ := h; .inl ⟨ds, i, z, .l, rfl, h2, h3⟩
theorem rix_t {i : Int} (h : ∃ z, atI ds i = some z ∧ Q z M) : RIx (.tup ds) (.int i) M Q := let ⟨z, h2, h3⟩ := h; .inr (.inl ⟨ds, i, z, rfl, rfl, h2, h3⟩)
theorem rlen_cl {b : Addr} (h : CL M b fun ds _ => Q (.int ds.length) M) : RLen [.cel b] M Q := let ⟨k, ds, h1, h2⟩ := h; .inl ⟨_, ds, rfl, .c k h1, h2⟩
theorem wgs_cl {b : Addr} {i : Int} {R : Cells → Prop} (h : CL M b fun ds f => ∃ j, ixN ds.length i = some j ∧ R (f (ds.set j d))) :
    ∃ k q ds z j, D.cel b = .cel q ∧ M[k]? = some (q, .lst ds) ∧ D.int i = .int z ∧ ixN ds.length z = some j ∧ R (M.set k (q, .lst (ds.set j d))) := let ⟨k, ds, h1, j, h2, h3⟩ := h; ⟨k, b, ds, i, j, rfl, h1, rfl, h2, h3⟩
theorem app_cl {b : Addr} {y : D} {R : Cells → Prop} (h : CL M b fun ds f => ds.length < sizeLine ∧ R (f (ds ++ [y]))) :
    ∃ (y' : D) (k : Nat) (ds : List D), [y] = [y'] ∧ M[k]? = some (b, .lst ds) ∧ ds.length < sizeLine ∧ R (M.set k (b, .lst (ds ++ [y']))) := let ⟨k, ds, h1, h2, h3⟩ := h; ⟨y, k, ds, rfl, h1, h2, h3⟩
theorem app0_cl {b : Addr} {R : Addr → Prop} (h : CL M b fun _ _ => True) (r : R b) : ∃ q, D.cel b = .cel q ∧ (∃ (k : Nat) (ds : List D), M[k]? = some (q, .lst ds)) ∧ R q := let ⟨k, ds, h1, _⟩ := h; ⟨b, rfl, ⟨k, ds, h1⟩, r⟩
theorem LV.cons {p : Addr × Cell} (h : LV M d ds) : LV (p :: M) d ds := h.elim .inl fun ⟨k, a, h1, h2⟩ => .inr ⟨k + 1, a, h1, h2⟩
theorem LV.ty (h : LV M d ds) : TyA M d "list" := by
  rcases h with rfl | ⟨k, a, rfl, h⟩
  · exact (rfl : "list" = "list")
  · show "list" = "list" ∧ ∃ (k : Nat) (ds : List D), M[k]? = some (a, .lst ds)
    exact ⟨rfl, k, ds, h⟩
def Sq (M : Cells) (d : D) (t : String) (ds : List D) : Prop := (t = "list" ∧ LV M d ds) ∨ (t = "tuple" ∧ d = .tup ds)
theorem Sq.cons {t : String} {p : Addr × Cell} (h : Sq M d t ds) : Sq (p :: M) d t ds := h.elim (fun h => .inl ⟨h.1, h.2.cons⟩) .inr
theorem Sq.len {t : String} (h : Sq M d t ds) (q : Q (.int ds.length) M) : RLen [d] M Q := by
  rcases h with ⟨rfl, h⟩ | ⟨rfl, rfl⟩
  · exact .inl ⟨d, ds, rfl, h, q⟩
  · exact .inr (.inl ⟨ds, rfl, q⟩)
theorem Sq.ix {t : String} {i : Int} (h : Sq M d t ds) (hz : atI ds i = some z) (q : Q z M) : RIx d (.int i) M Q := by
  rcases h with ⟨rfl, h⟩ | ⟨rfl, rfl⟩
  · exact .inl ⟨ds, i, z, h, rfl, hz, q⟩
  · exact .inr (.inl ⟨ds, i, z, rfl, rfl, hz, q⟩)
/-- alike, as the laws' own test of it goes -/
inductive Alk (M : Cells) : Nat → D → D → Prop
  | non {n : Nat} : Alk M n .non .non
  | bl {n : Nat} (b : Bool) : Alk M n (.bl b) (.bl b)
  | int {n : Nat} (i : Int) : Alk M n (.int i) (.int i)
  | str {n : Nat} (x : Str) : Alk M n (.str x) (.str x)
  | seq {n : Nat} {d e : D} {t : String} {ds es : List D} (h1 : Sq M d t ds) (h2 : Sq M e t es) (hl : ds.length = es.length) (hz : es.length ≤ 1000000) (h : ∀ (i : Nat) (a b : D), ds[i]? = some a → es[i]? = some b → Alk M n a b) : Alk M (n + 1) d e
theorem Alk.cons {p : Addr × Cell} {n : Nat} {d e : D} (h : Alk M n d e) : Alk (p :: M) n d e := by
  induction h with
  | non => exact .non
  | bl b => exact .bl b
  | int b => exact .int b
  | str b => exact .str b
  | seq h1 h2 hl hz h ih => exact .seq h1.cons h2.cons hl hz fun i a b ha hb => ih i a b ha hb
end
section
variable {X : Cx} {P : XP} {F : Hp} {M : Cells} {δ : Slots} {σ : L2.St} {H : Hp} {e a b c o : Expr} {es : List Expr} {pos apos cpos p p2 q : Pos}
theorem wt_lelt {Q : Bool → Cells → Prop} (h : WE X P a δ M fun d M1 => WE X P b δ M1 fun e M2 => ∃ i j, d = .int i ∧ e = .int j ∧ if decide (i ≤ j) = true then WE X P c δ M2 fun f M3 => ∃ l, f = .int l ∧ Q (decide (j < l)) M3 else Q false M2)
    (hm : lastMarks [.LtE, .Lt] [b, c] = false := by with_unfolding_all rfl) : WT X P (.Compare a [.LtE, .Lt] [b, c] pos) δ M Q :=
  wt_chain op_le op_lt lift_B0 lift_B0 (h.imp fun d M1 q => q.imp fun e M2 ⟨i, j, h1, h2, q⟩ => ⟨i, j, h1, h2, _, rfl, by
    split at q
    · rename_i hc; rw [if_pos hc]; exact q.imp fun f M3 ⟨l, h3, q⟩ => ⟨j, l, h2, h3, _, rfl, q⟩
    · rename_i hc; rw [if_neg hc]; exact ⟨_, rfl, q⟩⟩) hm
end
end PW
/-! PW9 -/
namespace PW
open PySem L2 PyProof.Rows
section
variable {X : Cx} {P : XP} {F : Hp} {M : Cells} {δ : Slots} {σ : L2.St} {H : Hp} {e a b c o : Expr} {es : List Expr} {pos apos cpos p p1 p2 q : Pos} {E : En}
theorem we_lele {Q : D → Cells → Prop} (h : WE X P a δ M fun d M1 => WE X P b δ M1 fun e M2 => ∃ i j, d = .int i ∧ e = .int j ∧ if decide (i ≤ j) = true then WE X P c δ M2 fun f M3 => ∃ l, f = .int l ∧ Q (.bl (decide (j ≤ l))) M3 else Q (.bl false) M2)
    (hm : lastMarks [.LtE, .LtE] [b, c] = false := by with_unfolding_all rfl) : WE X P (.Compare a [.LtE, .LtE] [b, c] pos) δ M Q :=
  we_chain op_le op_le lift_B0 lift_B0 (h.imp fun d M1 q => q.imp fun e M2 ⟨i, j, h1, h2, q⟩ => ⟨i, j, h1, h2, _, rfl, by
    split at q
    · rename_i hc; rw [if_pos hc]; exact q.imp fun f M3 ⟨l, h3, q⟩ => ⟨j, l, h2, h3, q⟩
    · rename_i hc; rw [if_neg hc]; exact q⟩) hm
end
end PW
/-! PWGd -/
namespace PW
open PySem L2 PyProof.Rows
section
variable {X : Cx} {P : XP} {F : Hp} {M : Cells} {δ : Slots} {σ : L2.St} {H : Hp} {e a b c o : Expr} {es : List Expr} {ks : List Keyword} {pos apos cpos p p1 p2 q : Pos} {E : En} {Q : D → Cells → Prop}
theorem gENm {x : Str} (h : WE X P (.Name x p) δ M Q) : WE X P (.Name x p) δ M Q := h
theorem gECn {k : Const} {j} (h : WE X P (.Constant k j p) δ M Q) : WE X P (.Constant k j p) δ M Q := h
theorem gECl (h : WE X P (.Call a es ks p) δ M Q) : WE X P (.Call a es ks p) δ M Q := h
theorem gECm {ops : List CmpOp} (h : WE X P (.Compare a ops es p) δ M Q) : WE X P (.Compare a ops es p) δ M Q := h
theorem gEBi {op : Operator} (h : WE X P (.BinOp a op b p) δ M Q) : WE X P (.BinOp a op b p) δ M Q := h
theorem gESu {j} (h : WE X P (.Subscript a b j) δ M Q) : WE X P (.Subscript a b j) δ M Q := h
theorem gEBo {op : BoolOp} (h : WE X P (.BoolOp op es p) δ M Q) : WE X P (.BoolOp op es p) δ M Q := h
theorem gTCm {ops : List CmpOp} {Q : Bool → Cells → Prop} (h : WT X P (.Compare a ops es p) δ M Q) : WT X P (.Compare a ops es p) δ M Q := h
/-- the name x, a call of x, x set, x a target -/
theorem gN (x : Str) (h : WE X P (.Name x p) δ M Q) : WE X P (.Name x p) δ M Q := h
theorem gC (x : Str) (h : WE X P (.Call (.Name x p) es ks q) δ M Q) : WE X P (.Call (.Name x p) es ks q) δ M Q := h
theorem gCK (x : Str) (h : WE X P (.Call (.Name x p) es [] q) δ M Q) : WE X P (.Call (.Name x p) es [] q) δ M Q := h
theorem gS (x : Str) (h : WS X P (.Assign [.Name x p] e q) δ M E) : WS X P (.Assign [.Name x p] e q) δ M E := h
theorem gG (x : Str) {d : D} {Q : Slots → Cells → Prop} (h : WG X P (.Name x p) d δ M Q) : WG X P (.Name x p) d δ M Q := h
theorem we_nm (i : Nat) {x : Str} {d : D} (hN : X.N[i]? = some x) (hd : δ[i]? = some (some d)) (h : Q d M) (hv : Vis X.env.scope x := by first | exact .inl rfl | exact .inr (.inl rfl) | exact .inr (.inr rfl)) (h1 : (x == ("__debug__" : Str)) = false := by decide) (h2 : (x == ("__classdict__" : Str)) = false := by decide) : WE X P (.Name x pos) δ M Q := we_name hN hv hd h h1 h2
theorem ws_st (i : Nat) {x : Str} {pos' : Pos} (h : WE X P e δ M fun d M' => E.nx (δ.set i (some d)) M') (N : Nice X := by assumption) (hi : X.N[i]? = some x := by exact rfl) (hx : Loc X.env.scope x := by first | exact .inl rfl | exact .inr rfl) (hs : swapsWith e (some (.Name x pos')) pos.line X.env = pure false := by rfl) (hf : X.fn x = true ∨ X.env.scope.names.lookup x = some .local := by first | exact .inl rfl | exact .inr rfl | assumption) : WS X P (.Assign [.Name x pos'] e pos) δ M E := ws_set N hi hx h hs hf
theorem wg_nm (i : Nat) {x : Str} {d : D} {Q : Slots → Cells → Prop} (h : Q (δ.set i (some d)) M) (N : Nice X := by assumption) (hi : X.N[i]? = some x := by exact rfl) (hx : Loc X.env.scope x := by first | exact .inl rfl | exact .inr rfl) (hf : X.fn x = true ∨ X.env.scope.names.lookup x = some .local := by first | exact .inl rfl | exact .inr rfl | assumption) : WG X P (.Name x pos) d δ M Q := wg_name N hi hx h hf
theorem we_cl (x : Str) {k n : Nat} {T : TSp} (h : WA X P (e :: es) δ M fun ds M1 => T ds M1 Q (fun x M' => P x δ M')) (c : FD X.prog X.w X.K X.mg X.base k x n T := by assumption) (hr : Room k X.A := by first | assumption | exact room_le (by assumption) (by decide)) (hg : Gl X x := by exact rfl)
    (hdb : (x == ("__debug__" : Str)) = false := by decide) (he : starEach (e :: es) X.env = (false, eval e X.env) :: starEach es X.env := by rfl) (hpl : (backTo pos (starEach es X.env)).any (·.1) = false := by rfl) : WE X P (.Call (.Name x p) (e :: es) [] pos) δ M Q := we_call c hr hg h hdb he hpl
end
end PW
/-! MBin -/
namespace PW
/-- x (x - 1) .. (x - k + 1) -/
def fal (x : Int) : Nat → Int
  | 0 => 1
  | k + 1 => fal x k * (x - (k : Int))
def fac : Nat → Int
  | 0 => 1
  | k + 1 => fac k * ((k : Int) + 1)
theorem fac_pos : ∀ k, 0 < fac k
  | 0 => by decide
  | k + 1 => Int.mul_pos (fac_pos k) (by omega)
theorem fal_left (x : Int) : ∀ k : Nat, fal (x + 1) (k + 1) = (x + 1) * fal x k
  | 0 => by simp [fal]
  | k + 1 => by
    have ih := fal_left x k
    show fal (x + 1) (k + 1) * (x + 1 - ((k + 1 : Nat) : Int)) = (x + 1) * (fal x k * (x - (k : Int)))
    rw [ih, Int.mul_assoc]
    congr 2
    omega
theorem fal_pascal (x : Int) (k : Nat) : fal (x + 1) (k + 1) = fal x (k + 1) + ((k : Int) + 1) * fal x k := by
  rw [fal_left]
  show (x + 1) * fal x k = fal x k * (x - (k : Int)) + ((k : Int) + 1) * fal x k
  rw [Int.mul_comm (fal x k), ← Int.add_mul]
  congr 1
  omega
theorem fal_zero : ∀ k : Nat, fal 0 (k + 1) = 0
  | 0 => by simp [fal]
  | k + 1 => by show fal 0 (k + 1) * _ = 0; rw [fal_zero k, Int.zero_mul]
theorem both_ways {P : Int → Prop} (h0 : P 0) (up : ∀ x, P x → P (x + 1)) (down : ∀ x, P (x + 1) → P x) : ∀ x, P x := by
  have hp : ∀ n : Nat, P (n : Int) := fun n => by
    induction n with
    | zero => exact h0
    | succ n ih => exact up _ ih
  have hn : ∀ n : Nat, P (-(n : Int)) := fun n => by
    induction n with
    | zero => exact h0
    | succ n ih =>
      refine down _ ?_
      rw [show -((n + 1 : Nat) : Int) + 1 = -(n : Int) by omega]
      exact ih
  intro x
  rcases Int.le_total 0 x with h | h
  · rw [show x = ((x.toNat : Nat) : Int) by omega]; exact hp _
  · rw [show x = -(((-x).toNat : Nat) : Int) by omega]; exact hn _
theorem fac_dvd : ∀ (k : Nat) (x : Int), fac k ∣ fal x k
  | 0, _ => Int.one_dvd _
  | k + 1, x => by
    have step : ∀ x, fac (k + 1) ∣ ((k : Int) + 1) * fal x k := fun x => by
      obtain ⟨c, hc⟩ := fac_dvd k x
      exact ⟨c, by rw [hc]; show _ = fac k * ((k : Int) + 1) * c; rw [Int.mul_comm (fac k) ((k : Int) + 1), Int.mul_assoc]⟩
    refine both_ways (P := fun x => fac (k + 1) ∣ fal x (k + 1)) ?_ ?_ ?_ x
    · rw [fal_zero]; exact Int.dvd_zero _
    · intro x h
      rw [fal_pascal]
      exact Int.dvd_add h (step x)
    · intro x h
      rw [fal_pascal] at h
      exact (Int.dvd_add_left (step x)).mp h
def bin (x : Int) (k : Nat) : Int := fal x k / fac k
theorem bin_mul (x : Int) (k : Nat) : fal x k = fac k * bin x k := (Int.mul_ediv_cancel' (fac_dvd k x)).symm
theorem bin_zero (x : Int) : bin x 0 = 1 := by simp [bin, fal, fac]
theorem bin_0 (k : Nat) : bin 0 (k + 1) = 0 := by unfold bin; rw [fal_zero]; exact Int.zero_ediv _
theorem bin_pascal (x : Int) (k : Nat) : bin (x + 1) (k + 1) = bin x (k + 1) + bin x k := by
  refine Int.eq_of_mul_eq_mul_left (Int.ne_of_gt (fac_pos (k + 1))) ?_
  rw [← bin_mul, fal_pascal, Int.mul_add, ← bin_mul, bin_mul x k]
  congr 1
  show ((k : Int) + 1) * (fac k * bin x k) = fac k * ((k : Int) + 1) * bin x k
  rw [Int.mul_comm (fac k) ((k : Int) + 1), Int.mul_assoc]
/-- j C(d, j) = d C(d - 1, j - 1) -/
theorem bin_absorb (d : Int) (j : Nat) : ((j : Int) + 1) * bin d (j + 1) = d * bin (d - 1) j := by
  have h := fal_left (d - 1) j
  rw [show d - 1 + 1 = d by omega, bin_mul, bin_mul (d - 1) j] at h
  refine Int.eq_of_mul_eq_mul_left (Int.ne_of_gt (fac_pos j)) ?_
  have e : fac (j + 1) * bin d (j + 1) = fac j * (((j : Int) + 1) * bin d (j + 1)) := by
    show fac j * ((j : Int) + 1) * bin d (j + 1) = _
    rw [Int.mul_assoc]
  rw [← e, h, ← Int.mul_assoc, ← Int.mul_assoc, Int.mul_comm d]
/-- Vandermonde's sum, the terms from j on: C(d, j + i) C(x, k - i) for i up to k -/
def conv (d x : Int) : Nat → Nat → Int
  | j, 0 => bin d j * bin x 0
  | j, k + 1 => bin d j * bin x (k + 1) + conv d x (j + 1) k
theorem conv_step (d x : Int) : ∀ (k j : Nat), conv (d + 1) x (j + 1) k = conv d x (j + 1) k + conv d x j k
  | 0, j => by
    show bin (d + 1) (j + 1) * bin x 0 = bin d (j + 1) * bin x 0 + bin d j * bin x 0
    rw [bin_pascal, Int.add_mul]
  | k + 1, j => by
    show bin (d + 1) (j + 1) * bin x (k + 1) + conv (d + 1) x (j + 2) k = bin d (j + 1) * bin x (k + 1) + conv d x (j + 2) k + (bin d j * bin x (k + 1) + conv d x (j + 1) k)
    have ih : conv (d + 1) x (j + 2) k = conv d x (j + 2) k + conv d x (j + 1) k := conv_step d x k (j + 1)
    rw [ih, bin_pascal, Int.add_mul]
    omega
theorem conv_up (d x : Int) (k : Nat) : conv (d + 1) x 0 (k + 1) = conv d x 0 (k + 1) + conv d x 0 k := by
  show bin (d + 1) 0 * bin x (k + 1) + conv (d + 1) x 1 k = bin d 0 * bin x (k + 1) + conv d x 1 k + conv d x 0 k
  have ih : conv (d + 1) x 1 k = conv d x 1 k + conv d x 0 k := conv_step d x k 0
  rw [ih, bin_zero, bin_zero]
  omega
theorem conv_0 (x : Int) : ∀ (k j : Nat), conv 0 x (j + 1) k = 0
  | 0, j => by show bin 0 (j + 1) * _ = 0; rw [bin_0, Int.zero_mul]
  | k + 1, j => by show bin 0 (j + 1) * _ + conv 0 x (j + 2) k = 0; rw [bin_0, Int.zero_mul, conv_0 x k (j + 1)]; rfl
theorem vander (x : Int) : ∀ (k : Nat) (d : Int), conv d x 0 k = bin (d + x) k
  | 0, d => by show bin d 0 * bin x 0 = _; rw [bin_zero, bin_zero, bin_zero]; rfl
  | k + 1, d => by
    refine both_ways (P := fun d => conv d x 0 (k + 1) = bin (d + x) (k + 1)) ?_ ?_ ?_ d
    · show bin 0 0 * bin x (k + 1) + conv 0 x 1 k = _
      rw [conv_0, bin_zero, Int.zero_add]
      omega
    · intro d h
      rw [conv_up, h, vander x k d, show d + 1 + x = d + x + 1 by omega, bin_pascal]
    · intro d h
      rw [conv_up, vander x k d, show d + 1 + x = d + x + 1 by omega, bin_pascal] at h
      omega
theorem dvd_term {d W : Int} {j : Nat} (h : ((j : Int) + 1) ∣ W) : d ∣ W * bin d (j + 1) := by
  obtain ⟨m, rfl⟩ := h
  refine ⟨m * bin (d - 1) j, ?_⟩
  rw [Int.mul_comm ((j : Int) + 1) m, Int.mul_assoc, bin_absorb, ← Int.mul_assoc, ← Int.mul_assoc, Int.mul_comm m d]
theorem dvd_conv {d x W : Int} : ∀ (k j : Nat), (∀ i, i ≤ k → ((j + i : Nat) : Int) + 1 ∣ W) → d ∣ W * conv d x (j + 1) k
  | 0, j, h => by
    show d ∣ W * (bin d (j + 1) * bin x 0)
    rw [← Int.mul_assoc]
    exact Int.dvd_trans (dvd_term (h 0 (Nat.le_refl _))) (Int.dvd_mul_right _ _)
  | k + 1, j, h => by
    show d ∣ W * (bin d (j + 1) * bin x (k + 1) + conv d x (j + 2) k)
    rw [Int.mul_add, ← Int.mul_assoc]
    refine Int.dvd_add (Int.dvd_trans (dvd_term (h 0 (Nat.zero_le _))) (Int.dvd_mul_right _ _)) (dvd_conv k (j + 1) fun i hi => ?_)
    have := h (i + 1) (by omega)
    rw [show j + 1 + i = j + (i + 1) by omega]
    exact this
/-- 1 .. k divide W: the difference of the places divides W times that of the binomials -/
theorem bin_keeps {W : Int} {k : Nat} (h : ∀ i : Nat, i < k → ((i : Int) + 1) ∣ W) (x y : Int) : (x - y) ∣ W * (bin x k - bin y k) := by
  cases k with
  | zero => rw [bin_zero, bin_zero]; exact ⟨0, by simp⟩
  | succ k =>
    have e := vander y (k + 1) (x - y)
    rw [show x - y + y = x by omega] at e
    have e2 : bin x (k + 1) - bin y (k + 1) = conv (x - y) y 1 k := by
      rw [← e]
      show bin (x - y) 0 * bin y (k + 1) + conv (x - y) y 1 k - bin y (k + 1) = _
      rw [bin_zero]
      omega
    rw [e2]
    exact dvd_conv k 0 fun i hi => by
      have := h i (by omega)
      rwa [Nat.zero_add]
end PW
/-! MCrt -/
namespace PW
/-- a state of Euclid's way to a factor of n by m -/
structure Eu (m n a b x y : Int) : Prop where
  a0 : 0 ≤ a
  b0 : 0 ≤ b
  ca : m ∣ a - x * n
  cb : m ∣ b - y * n
  g : Int.gcd a b = Int.gcd n m
  sg : (0 ≤ x ∧ y ≤ 0) ∨ (x ≤ 0 ∧ 0 ≤ y)
  eq : (x.natAbs : Int) * b + (y.natAbs : Int) * a = m
  hx : (x.natAbs : Int) ≤ m
  hy : (y.natAbs : Int) ≤ m
theorem gcd_mod2 {u v : Int} (hu : 0 ≤ u) (hv : 0 < v) : Int.gcd v (u % v) = Int.gcd u v := by
  have e : (u % v).natAbs = u.natAbs % v.natAbs := by
    obtain ⟨a, rfl⟩ := Int.eq_ofNat_of_zero_le hu
    obtain ⟨b, rfl⟩ := Int.eq_ofNat_of_zero_le (Int.le_of_lt hv)
    rfl
  show Nat.gcd v.natAbs (u % v).natAbs = Nat.gcd u.natAbs v.natAbs
  rw [e, Nat.gcd_comm u.natAbs, Nat.gcd_comm v.natAbs (u.natAbs % v.natAbs), ← Nat.gcd_rec]
theorem Eu.step {m n a b x y : Int} (h : Eu m n a b x y) (hb : b ≠ 0) : Eu m n b (a % b) y (x - a / b * y) := by
  have hbp : 0 < b := by have := h.b0; omega
  have hq : 0 ≤ a / b := Int.ediv_nonneg h.a0 h.b0
  have e1 : a % b = a - a / b * b := by have := Int.emod_add_mul_ediv a b; rw [Int.mul_comm] at this; omega
  have c : m ∣ (a % b) - (x - a / b * y) * n := by
    have e : (a % b) - (x - a / b * y) * n = (a - x * n) - a / b * (b - y * n) := by
      rw [e1, Int.sub_mul, Int.mul_sub, Int.mul_assoc]; omega
    rw [e]
    exact Int.dvd_sub h.ca (Int.dvd_mul_of_dvd_right h.cb)
  have sg : (0 ≤ y ∧ x - a / b * y ≤ 0) ∨ (y ≤ 0 ∧ 0 ≤ x - a / b * y) := by
    rcases h.sg with ⟨p, q⟩ | ⟨p, q⟩
    · right
      have : a / b * y ≤ 0 := Int.mul_nonpos_of_nonneg_of_nonpos hq q
      exact ⟨q, by omega⟩
    · left
      have : 0 ≤ a / b * y := Int.mul_nonneg hq q
      exact ⟨q, by omega⟩
  have ab : ((x - a / b * y).natAbs : Int) = (x.natAbs : Int) + a / b * (y.natAbs : Int) := by
    rcases h.sg with ⟨p, q⟩ | ⟨p, q⟩
    · have : a / b * y ≤ 0 := Int.mul_nonpos_of_nonneg_of_nonpos hq q
      have ey : (y.natAbs : Int) = -y := by omega
      rw [ey, Int.mul_neg]; omega
    · have : 0 ≤ a / b * y := Int.mul_nonneg hq q
      have ey : (y.natAbs : Int) = y := by omega
      rw [ey]; omega
  have eq : (y.natAbs : Int) * (a % b) + ((x - a / b * y).natAbs : Int) * b = m := by
    rw [ab, e1, ← h.eq, Int.mul_sub, Int.add_mul]
    have : (y.natAbs : Int) * (a / b * b) = a / b * (y.natAbs : Int) * b := by
      rw [← Int.mul_assoc, Int.mul_comm (y.natAbs : Int) (a / b)]
    omega
  refine ⟨h.b0, Int.emod_nonneg _ hb, h.cb, c, by rw [gcd_mod2 h.a0 hbp, h.g], sg, eq, h.hy, ?_⟩
  have p1 : 0 ≤ (y.natAbs : Int) * (a % b) := Int.mul_nonneg (by omega) (Int.emod_nonneg _ hb)
  have p2 : ((x - a / b * y).natAbs : Int) * 1 ≤ ((x - a / b * y).natAbs : Int) * b := Int.mul_le_mul_of_nonneg_left (by omega) (by omega)
  omega
theorem Eu.start1 {m n : Int} (hn : 0 ≤ n) (hm : 0 < m) : Eu m n m (n % m) 0 1 := by
  refine ⟨by omega, Int.emod_nonneg _ (by omega), by simp, ?_, ?_, .inr ⟨by omega, by omega⟩, by simp, by simp; omega, by simp; omega⟩
  · rw [Int.one_mul]
    have := Int.emod_add_mul_ediv n m
    exact ⟨-(n / m), by rw [Int.mul_neg]; omega⟩
  · exact gcd_mod2 hn hm
theorem Eu.stop {m n a x y : Int} (h : Eu m n a 0 x y) : m ∣ (Int.gcd n m : Int) - x * n := by
  have := h.g
  rw [Int.gcd_zero_right] at this
  have e : (Int.gcd n m : Int) = a := by have := h.a0; omega
  rw [e]
  exact h.ca
/-- two classes with X in both, met: rounds by a factor f of m1 / d -/
theorem met_law {X r1 m1 r2 m2 f : Int} (h1 : 0 < m1) (h2 : 0 < m2) (c1 : m1 ∣ X - r1) (c2 : m2 ∣ X - r2) (hf : m2 / (Int.gcd m1 m2 : Int) ∣ 1 - f * (m1 / (Int.gcd m1 m2 : Int))) :
    m1 * (m2 / (Int.gcd m1 m2 : Int)) ∣ X - (r1 + m1 * ((r2 - r1) / (Int.gcd m1 m2 : Int) * f % (m2 / (Int.gcd m1 m2 : Int)))) := by
  obtain ⟨q, hq⟩ := c1
  obtain ⟨q', hq'⟩ := c2
  have hd : 0 < (Int.gcd m1 m2 : Int) := by
    have : 0 < Int.gcd m1 m2 := Int.gcd_pos_of_ne_zero_left _ (by omega)
    omega
  generalize hdd : (Int.gcd m1 m2 : Int) = d at *
  have d1 : d ∣ m1 := hdd ▸ Int.gcd_dvd_left ..
  have d2 : d ∣ m2 := hdd ▸ Int.gcd_dvd_right ..
  obtain ⟨a, ha⟩ := d1
  obtain ⟨b, hb⟩ := d2
  have ea : m1 / d = a := by rw [ha, Int.mul_ediv_cancel_left _ (by omega)]
  have eb : m2 / d = b := by rw [hb, Int.mul_ediv_cancel_left _ (by omega)]
  rw [ea, eb] at hf
  rw [eb]
  have er : (r2 - r1) / d = a * q - b * q' := by
    have : r2 - r1 = d * (a * q - b * q') := by
      rw [Int.mul_sub, ← Int.mul_assoc, ← Int.mul_assoc, ← ha, ← hb]; omega
    rw [this, Int.mul_ediv_cancel_left _ (by omega)]
  rw [er]
  obtain ⟨u, hu⟩ := hf
  -- (a q - b q') f = q + b * something
  have hb0 : b ≠ 0 := fun z => by rw [z] at hb; omega
  have key : b ∣ q - (a * q - b * q') * f % b := by
    have e1 : (a * q - b * q') * f = q - b * (u * q + q' * f) := by
      have e2 : f * a = 1 - b * u := by omega
      have e3 : a * q * f = (f * a) * q := by rw [Int.mul_comm f a, Int.mul_assoc, Int.mul_assoc, Int.mul_comm q f]
      rw [Int.sub_mul, e3, e2, Int.sub_mul, Int.one_mul, Int.mul_add, Int.mul_assoc, Int.mul_assoc]
      omega
    have e4 := Int.emod_add_mul_ediv ((a * q - b * q') * f) b
    refine ⟨(u * q + q' * f) + (a * q - b * q') * f / b, ?_⟩
    rw [Int.mul_add]
    omega
  obtain ⟨k, hk⟩ := key
  refine ⟨k, ?_⟩
  have : X - (r1 + m1 * ((a * q - b * q') * f % b)) = m1 * (q - (a * q - b * q') * f % b) := by
    rw [Int.mul_sub]; omega
  rw [this, hk, Int.mul_assoc]
/-- L is the least common multiple of some -/
def IsL (fs : List Int) (L : Int) : Prop := 0 < L ∧ ∀ z, L ∣ z ↔ ∀ f ∈ fs, f ∣ z
theorem IsL.uniq {fs gs : List Int} {L L' : Int} (h : IsL fs L) (h' : IsL gs L') (e : ∀ z : Int, (∀ f ∈ fs, f ∣ z) ↔ ∀ f ∈ gs, f ∣ z) : L = L' := by
  have a : L ∣ L' := (h.2 L').mpr ((e L').mpr ((h'.2 L').mp (Int.dvd_refl _)))
  have b : L' ∣ L := (h'.2 L).mpr ((e L).mp ((h.2 L).mp (Int.dvd_refl _)))
  exact Int.dvd_antisymm (by have := h.1; omega) (by have := h'.1; omega) a b
theorem IsL.nil : IsL [] 1 := ⟨by decide, fun z => ⟨fun _ _ h => by simp at h, fun _ => Int.one_dvd _⟩⟩
theorem IsL.snoc {fs : List Int} {L f g : Int} (h : IsL fs L) (hg : 0 < g) (e : g = f ∨ g = -f) : IsL (fs ++ [f]) (L * (g / (Int.gcd L g : Int))) := by
  have hL := h.1
  have hd : 0 < (Int.gcd L g : Int) := by
    have : 0 < Int.gcd L g := Int.gcd_pos_of_ne_zero_left _ (by omega)
    omega
  have dg : (Int.gcd L g : Int) ∣ g := Int.gcd_dvd_right ..
  have el : L * (g / (Int.gcd L g : Int)) = (Int.lcm L g : Int) := by
    have h1 : (Int.gcd L g : Int) * (Int.lcm L g : Int) = L * g := by
      have := Int.gcd_mul_lcm L g
      have n1 : ((Int.gcd L g * Int.lcm L g : Nat) : Int) = ((L * g).natAbs : Int) := by rw [this, Int.natAbs_mul]
      rw [Int.natCast_mul] at n1
      rw [n1]
      have : 0 ≤ L * g := Int.mul_nonneg (by omega) (by omega)
      omega
    obtain ⟨k, hk⟩ := dg
    have h2 : g / (Int.gcd L g : Int) = k := Int.ediv_eq_of_eq_mul_right (by omega) hk
    rw [h2]
    have h3 : (Int.gcd L g : Int) * (Int.lcm L g : Int) = (Int.gcd L g : Int) * (L * k) := by
      rw [h1, ← Int.mul_assoc, Int.mul_comm (Int.gcd L g : Int) L, Int.mul_assoc, ← hk]
    exact (Int.eq_of_mul_eq_mul_left (by omega) h3).symm
  rw [el]
  refine ⟨?_, fun z => ?_⟩
  · have : 0 < Int.lcm L g := Int.lcm_pos (by omega) (by omega)
    omega
  · have fg : f ∣ z ↔ g ∣ z := by
      rcases e with e | e
      · rw [e]
      · rw [e, Int.neg_dvd]
    constructor
    · intro hz x hx
      rcases List.mem_append.mp hx with hx | hx
      · exact (h.2 z).mp (Int.dvd_trans (Int.dvd_lcm_left ..) hz) x hx
      · rw [List.mem_singleton.mp hx]
        exact fg.mpr (Int.dvd_trans (Int.dvd_lcm_right ..) hz)
    · intro hz
      have a : L ∣ z := (h.2 z).mpr fun x hx => hz x (List.mem_append_left _ hx)
      have b : g ∣ z := fg.mp (hz f (List.mem_append_right _ (List.mem_singleton.mpr rfl)))
      exact Int.coe_lcm_dvd a b
end PW
/-! MVal -/
namespace PW
/-- the least common multiple of 1 .. k, as the laws build it -/
def lc : Nat → Int
  | 0 => 1
  | k + 1 => lc k * ((k : Int) + 1) / Int.gcd (lc k) ((k : Int) + 1)
theorem gcd_pos' {a b : Int} (h : 0 < b) : (0 : Int) < Int.gcd a b := by
  have : Int.gcd a b ≠ 0 := fun e => by
    have := (Int.gcd_eq_zero_iff.mp e).2
    omega
  omega
/-- the least common multiple of two, from one and its part -/
theorem lcm_eq {a b : Int} (hb : 0 < b) (ha : 0 < a) : a ∣ a * b / Int.gcd a b ∧ b ∣ a * b / Int.gcd a b ∧ 0 < a * b / Int.gcd a b ∧ a * b / Int.gcd a b ≤ a * b := by
  have hg := gcd_pos' (a := a) hb
  obtain ⟨m, hm⟩ := Int.gcd_dvd_left a b
  obtain ⟨n, hn⟩ := Int.gcd_dvd_right a b
  generalize (Int.gcd a b : Int) = g at *
  have e1 : a * b / g = a * n := by
    conv => lhs; rw [hn, Int.mul_left_comm]
    exact Int.mul_ediv_cancel_left _ (by omega)
  have e2 : a * b / g = b * m := by
    conv => lhs; rw [Int.mul_comm, hm, Int.mul_left_comm]
    exact Int.mul_ediv_cancel_left _ (by omega)
  have hn0 : 0 < n := by
    refine Int.not_le.mp fun h => ?_
    have : g * n ≤ g * 0 := Int.mul_le_mul_of_nonneg_left h (by omega)
    omega
  refine ⟨⟨n, e1⟩, ⟨m, e2⟩, by rw [e1]; exact Int.mul_pos ha hn0, ?_⟩
  rw [e1]
  refine Int.mul_le_mul_of_nonneg_left ?_ (by omega)
  have : 1 * n ≤ g * n := Int.mul_le_mul_of_nonneg_right (by omega) (by omega)
  omega
theorem lc_pos : ∀ k, 0 < lc k
  | 0 => by decide
  | k + 1 => (lcm_eq (by omega) (lc_pos k)).2.2.1
theorem lc_step (k : Nat) : lc k ∣ lc (k + 1) := (lcm_eq (by omega) (lc_pos k)).1
theorem lc_last (k : Nat) : ((k : Int) + 1) ∣ lc (k + 1) := (lcm_eq (by omega) (lc_pos k)).2.1
theorem lc_le (k : Nat) : lc (k + 1) ≤ lc k * ((k : Int) + 1) := (lcm_eq (by omega) (lc_pos k)).2.2.2
theorem lc_dvd : ∀ (k i : Nat), i < k → ((i : Int) + 1) ∣ lc k
  | 0, i, h => absurd h (by omega)
  | k + 1, i, h => by
    by_cases e : i = k
    · subst e; exact lc_last _
    · exact Int.dvd_trans (lc_dvd k i (by omega)) (lc_step k)
/-- bounds by powers of 2 -/
theorem lc_bd : ∀ k : Nat, k ≤ 64 → lc k ≤ 2 ^ (6 * k)
  | 0, _ => by decide
  | k + 1, h => by
    have ih := lc_bd k (by omega)
    have h1 : lc k * ((k : Int) + 1) ≤ 2 ^ (6 * k) * 2 ^ 6 := Int.mul_le_mul ih (by omega) (by omega) (by have := lc_pos k; omega)
    rw [← Int.pow_add] at h1
    exact Int.le_trans (lc_le k) (by rw [show 6 * (k + 1) = 6 * k + 6 by omega]; exact h1)
theorem fac_bd : ∀ k : Nat, k ≤ 64 → fac k ≤ 2 ^ (6 * k)
  | 0, _ => by decide
  | k + 1, h => by
    have ih := fac_bd k (by omega)
    have h1 : fac k * ((k : Int) + 1) ≤ 2 ^ (6 * k) * 2 ^ 6 := Int.mul_le_mul ih (by omega) (by omega) (by have := fac_pos k; omega)
    rw [← Int.pow_add] at h1
    show fac k * ((k : Int) + 1) ≤ _
    rw [show 6 * (k + 1) = 6 * k + 6 by omega]
    exact h1
theorem fal_bd {x : Int} {a n : Nat} (h : x.natAbs + n ≤ 2 ^ a) : ∀ k : Nat, k ≤ n → (fal x k).natAbs ≤ 2 ^ (a * k)
  | 0, _ => by simp [fal]
  | k + 1, hk => by
    have ih := fal_bd h k (by omega)
    show (fal x k * (x - (k : Int))).natAbs ≤ _
    rw [Int.natAbs_mul, Nat.mul_add, Nat.mul_one, Nat.pow_add]
    exact Nat.mul_le_mul ih (by omega)
/-- the value at x of the formula of the first k integers of cs -/
def valTo (cs : List Int) (x : Int) : Nat → Int
  | 0 => 0
  | k + 1 => valTo cs x k + cs.getD k 0 * lc k * bin x k
def valF (cs : List Int) (x : Int) : Int := valTo cs x cs.length
theorem valTo_keeps (cs : List Int) (x y : Int) : ∀ k, (x - y) ∣ (valTo cs x k - valTo cs y k)
  | 0 => by simp [valTo]
  | k + 1 => by
    have e : valTo cs x (k + 1) - valTo cs y (k + 1) = (valTo cs x k - valTo cs y k) + cs.getD k 0 * (lc k * (bin x k - bin y k)) := by
      show valTo cs x k + cs.getD k 0 * lc k * bin x k - (valTo cs y k + cs.getD k 0 * lc k * bin y k) = _
      rw [Int.mul_sub, Int.mul_sub, ← Int.mul_assoc, ← Int.mul_assoc]
      omega
    rw [e]
    exact Int.dvd_add (valTo_keeps cs x y k) (Int.dvd_trans (bin_keeps (lc_dvd k) x y) (Int.dvd_mul_left _ _))
theorem valF_keeps (cs : List Int) (x y : Int) : (x - y) ∣ (valF cs x - valF cs y) := valTo_keeps cs x y _
end PW
/-! MFal -/
namespace PW
end PW
/-! MForm -/
namespace PW
end PW
/-! MRow -/
namespace PW
theorem lc_fac : ∀ k : Nat, lc k ≤ fac k
  | 0 => by decide
  | k + 1 => Int.le_trans (lc_le k) (Int.mul_le_mul_of_nonneg_right (lc_fac k) (by omega))
theorem fal_pow {x : Int} {B n : Nat} (h : x.natAbs + n ≤ B) : ∀ k : Nat, k ≤ n → (fal x k).natAbs ≤ B ^ k
  | 0, _ => by simp [fal]
  | k + 1, hk => by
    have ih := fal_pow h k (by omega)
    show (fal x k * (x - (k : Int))).natAbs ≤ _
    rw [Int.natAbs_mul, Nat.pow_succ]
    exact Nat.mul_le_mul ih (by omega)
theorem term_pow {x : Int} {B n k : Nat} (h : x.natAbs + n ≤ B) (hk : k ≤ n) : (lc k * bin x k).natAbs ≤ B ^ k := by
  refine Nat.le_trans ?_ (fal_pow h k hk)
  rw [bin_mul, Int.natAbs_mul, Int.natAbs_mul]
  exact Nat.mul_le_mul_right _ (by have := lc_fac k; have := lc_pos k; omega)
theorem valTo_small {r : List Int} {x : Int} {B n c0 t : Nat} (h : x.natAbs + n ≤ B) (hB : 1 ≤ B) (h0 : (r.getD 0 0).natAbs ≤ c0) (ht : ∀ k, 1 ≤ k → (r.getD k 0).natAbs ≤ t) : ∀ k : Nat, k ≤ n → (valTo r x (k + 1)).natAbs ≤ c0 + k * (t * B ^ n)
  | 0, _ => by
    show (0 + r.getD 0 0 * lc 0 * bin x 0).natAbs ≤ _
    rw [bin_zero, show lc 0 = 1 from rfl, Int.mul_one, Int.mul_one, Int.zero_add]
    omega
  | k + 1, hk => by
    have ih := valTo_small h hB h0 ht k (by omega)
    show (valTo r x (k + 1) + r.getD (k + 1) 0 * lc (k + 1) * bin x (k + 1)).natAbs ≤ _
    have a : (r.getD (k + 1) 0 * lc (k + 1) * bin x (k + 1)).natAbs ≤ t * B ^ n := by
      rw [Int.mul_assoc, Int.natAbs_mul]
      exact Nat.mul_le_mul (ht (k + 1) (by omega)) (Nat.le_trans (term_pow h hk) (Nat.pow_le_pow_right hB hk))
    have b := Int.natAbs_add_le (valTo r x (k + 1)) (r.getD (k + 1) 0 * lc (k + 1) * bin x (k + 1))
    rw [Nat.add_mul, Nat.one_mul]
    omega
/-- values near -/
theorem valF_small {r : List Int} {x : Int} {B n c0 t : Nat} (hl : 1 ≤ r.length) (hn : r.length ≤ n + 1) (h : x.natAbs + n ≤ B) (hB : 1 ≤ B) (h0 : (r.getD 0 0).natAbs ≤ c0) (ht : ∀ k, 1 ≤ k → (r.getD k 0).natAbs ≤ t) : (valF r x).natAbs ≤ c0 + n * (t * B ^ n) := by
  have a := valTo_small h hB h0 ht (r.length - 1) (by omega)
  rw [show r.length - 1 + 1 = r.length by omega] at a
  refine Nat.le_trans a (Nat.add_le_add_left (Nat.mul_le_mul_right _ (by omega)) _)
end PW
/-! MSure -/
namespace PW
/-- the least common multiple; 0 if one of them is 0 -/
def lcmF : List Int → Int
  | [] => 1
  | f :: fs => (Int.lcm f (lcmF fs) : Int)
theorem lcmF_nn : ∀ fs, 0 ≤ lcmF fs
  | [] => by decide
  | f :: fs => Int.natCast_nonneg _
theorem lcmF_dvd : ∀ (fs : List Int) (z : Int), lcmF fs ∣ z ↔ ∀ f ∈ fs, f ∣ z
  | [], z => ⟨fun _ f h => by simp at h, fun _ => Int.one_dvd _⟩
  | f :: fs, z => by
    show (Int.lcm f (lcmF fs) : Int) ∣ z ↔ _
    constructor
    · intro h g hg
      rcases List.mem_cons.mp hg with rfl | hg
      · exact Int.dvd_trans (Int.dvd_lcm_left ..) h
      · exact (lcmF_dvd fs z).mp (Int.dvd_trans (Int.dvd_lcm_right ..) h) g hg
    · intro h
      exact Int.coe_lcm_dvd (h f (List.mem_cons_self ..)) ((lcmF_dvd fs z).mpr fun g hg => h g (List.mem_cons_of_mem _ hg))
theorem lcmF_uniq {fs : List Int} {L : Int} (h0 : 0 ≤ L) (h : ∀ z, L ∣ z ↔ ∀ f ∈ fs, f ∣ z) : L = lcmF fs :=
  Int.dvd_antisymm h0 (lcmF_nn fs) ((h _).mpr ((lcmF_dvd fs _).mp (Int.dvd_refl _))) ((lcmF_dvd fs _).mpr ((h _).mp (Int.dvd_refl _)))
theorem lcmF_pos {fs : List Int} (h : ∀ f ∈ fs, f ≠ 0) : 0 < lcmF fs := by
  induction fs with
  | nil => decide
  | cons f fs ih =>
    show 0 < (Int.lcm f (lcmF fs) : Int)
    have a := ih fun g hg => h g (List.mem_cons_of_mem _ hg)
    have b := h f (List.mem_cons_self ..)
    have : 0 < Int.lcm f (lcmF fs) := Int.lcm_pos b (by omega)
    omega
theorem lcmF_of {fs : List Int} {L : Int} (h : IsL fs L) : L = lcmF fs := lcmF_uniq (Int.le_of_lt h.1) h.2
theorem lcmF_snoc (fs : List Int) (f : Int) : lcmF (fs ++ [f]) = (Int.lcm (lcmF fs) f : Int) := by
  refine (lcmF_uniq (Int.natCast_nonneg _) fun z => ?_).symm
  constructor
  · intro h g hg
    rcases List.mem_append.mp hg with hg | hg
    · exact (lcmF_dvd fs z).mp (Int.dvd_trans (Int.dvd_lcm_left ..) h) g hg
    · rw [List.mem_singleton.mp hg]; exact Int.dvd_trans (Int.dvd_lcm_right ..) h
  · intro h
    exact Int.coe_lcm_dvd ((lcmF_dvd fs z).mpr fun g hg => h g (List.mem_append_left _ hg)) (h f (List.mem_append_right _ (List.mem_singleton.mpr rfl)))
/-- what m has of a least common multiple -/
theorem gcd_lcm_nat (a b m : Nat) (hm : 0 < m) : Nat.gcd (Nat.lcm a b) m ∣ Nat.lcm (Nat.gcd a m) (Nat.gcd b m) := by
  have e1 : Nat.gcd (Nat.gcd a m) (Nat.gcd b m) = Nat.gcd (Nat.gcd a b) m := by
    refine Nat.dvd_antisymm ?_ ?_
    · refine Nat.dvd_gcd (Nat.dvd_gcd ?_ ?_) ?_
      · exact Nat.dvd_trans (Nat.gcd_dvd_left ..) (Nat.gcd_dvd_left ..)
      · exact Nat.dvd_trans (Nat.gcd_dvd_right ..) (Nat.gcd_dvd_left ..)
      · exact Nat.dvd_trans (Nat.gcd_dvd_left ..) (Nat.gcd_dvd_right ..)
    · refine Nat.dvd_gcd (Nat.dvd_gcd ?_ ?_) (Nat.dvd_gcd ?_ ?_)
      · exact Nat.dvd_trans (Nat.gcd_dvd_left ..) (Nat.gcd_dvd_left ..)
      · exact Nat.gcd_dvd_right ..
      · exact Nat.dvd_trans (Nat.gcd_dvd_left ..) (Nat.gcd_dvd_right ..)
      · exact Nat.gcd_dvd_right ..
  have dp : 0 < Nat.gcd (Nat.gcd a b) m := Nat.gcd_pos_of_pos_right _ hm
  have key : Nat.gcd (Nat.lcm a b) m * Nat.gcd (Nat.gcd a b) m ∣ Nat.gcd a m * Nat.gcd b m := by
    rw [show Nat.gcd a m * Nat.gcd b m = Nat.gcd (Nat.gcd (a * b) (a * m)) (Nat.gcd (m * b) (m * m)) by rw [Nat.gcd_mul_left, Nat.gcd_mul_left, Nat.gcd_mul_right]]
    have hG : Nat.gcd (Nat.lcm a b) m ∣ m := Nat.gcd_dvd_right ..
    have hd : Nat.gcd (Nat.gcd a b) m ∣ m := Nat.gcd_dvd_right ..
    have ha : Nat.gcd (Nat.gcd a b) m ∣ a := Nat.dvd_trans (Nat.gcd_dvd_left ..) (Nat.gcd_dvd_left ..)
    have hb : Nat.gcd (Nat.gcd a b) m ∣ b := Nat.dvd_trans (Nat.gcd_dvd_left ..) (Nat.gcd_dvd_right ..)
    refine Nat.dvd_gcd (Nat.dvd_gcd ?_ ?_) (Nat.dvd_gcd ?_ ?_)
    · have := Nat.mul_dvd_mul (Nat.gcd_dvd_left (Nat.lcm a b) m) (Nat.gcd_dvd_left (Nat.gcd a b) m)
      rwa [Nat.lcm_mul_gcd] at this
    · rw [Nat.mul_comm a m]; exact Nat.mul_dvd_mul hG ha
    · exact Nat.mul_dvd_mul hG hb
    · exact Nat.mul_dvd_mul hG hd
  rw [← e1, ← Nat.lcm_mul_gcd (Nat.gcd a m) (Nat.gcd b m)] at key
  rw [e1] at key
  exact Nat.dvd_of_mul_dvd_mul_right dp key
theorem gcd_lcmF {m : Int} (hm : 0 < m) : ∀ fs : List Int, (Int.gcd (lcmF fs) m : Int) = lcmF (fs.map fun f => (Int.gcd f m : Int))
  | [] => by
    show (Int.gcd 1 m : Int) = 1
    rw [Int.gcd_one_left]; rfl
  | f :: fs => by
    have ih := gcd_lcmF hm fs
    show (Int.gcd (Int.lcm f (lcmF fs) : Int) m : Int) = (Int.lcm (Int.gcd f m : Int) (lcmF (fs.map fun f => (Int.gcd f m : Int))) : Int)
    rw [← ih]
    refine Int.dvd_antisymm (Int.natCast_nonneg _) (Int.natCast_nonneg _) ?_ ?_
    · have := gcd_lcm_nat f.natAbs (lcmF fs).natAbs m.natAbs (by omega)
      exact Int.natCast_dvd_natCast.mpr this
    · refine Int.dvd_coe_gcd (Int.coe_lcm_dvd ?_ ?_) (Int.coe_lcm_dvd ?_ ?_)
      · exact Int.dvd_trans (Int.gcd_dvd_left ..) (Int.dvd_lcm_left ..)
      · exact Int.dvd_trans (Int.gcd_dvd_left ..) (Int.dvd_lcm_right ..)
      · exact Int.gcd_dvd_right ..
      · exact Int.gcd_dvd_right ..
/-- how much of a modulus is sure at r -/
def sureF (xs : List (Int × Int)) (m r : Int) : Int := lcmF (xs.map fun x => (Int.gcd (r - x.1) m : Int))
theorem sureF_gcd (xs : List (Int × Int)) {m : Int} (hm : 0 < m) (r : Int) : sureF xs m r = (Int.gcd (lcmF (xs.map fun x => r - x.1)) m : Int) := by
  rw [gcd_lcmF hm, List.map_map]
  rfl
/-- it is that of the remainder -/
theorem sureF_mod (xs : List (Int × Int)) {m : Int} (hm : 0 < m) (r : Int) : sureF xs m (r % m) = sureF xs m r := by
  unfold sureF
  congr 1
  refine List.map_congr_left fun x _ => ?_
  have e : r - x.1 = (r % m - x.1) + m * (r / m) := by have := Int.emod_add_mul_ediv r m; omega
  rw [e, Int.mul_comm m, Int.gcd_add_mul_right_left]
end PW
/-! MFill -/
namespace PW
theorem bez_at {m n : Int} : ∀ (k : Nat) {a b x y : Int}, Eu m n a b x y → b.toNat ≤ k → ∃ z, m ∣ (Int.gcd n m : Int) - z * n
  | 0, a, b, x, y, h, hk => by
    have b0 := h.b0
    obtain rfl : b = 0 := by omega
    exact ⟨x, h.stop⟩
  | k + 1, a, b, x, y, h, hk => by
    have b0 := h.b0
    by_cases hb : b = 0
    · subst hb; exact ⟨x, h.stop⟩
    · have := Int.emod_lt_of_pos a (show 0 < b by omega)
      have := Int.emod_nonneg a hb
      exact bez_at k (h.step hb) (by omega)
theorem bez {m n : Int} (hm : 0 < m) (hn : 0 ≤ n) : ∃ z, m ∣ (Int.gcd n m : Int) - z * n := bez_at _ (Eu.start1 hn hm) (Nat.le_refl _)
theorem crt_step {L m c : Int} (hm : 0 < m) (hL : 0 ≤ L) (h : (Int.gcd L m : Int) ∣ c) : ∃ t, m ∣ L * t - c := by
  obtain ⟨z, hz⟩ := bez hm hL
  obtain ⟨q, rfl⟩ := h
  refine ⟨z * q, ?_⟩
  have : L * (z * q) - (Int.gcd L m : Int) * q = -(((Int.gcd L m : Int) - z * L) * q) := by
    rw [Int.sub_mul, Int.mul_comm z L, Int.mul_assoc]; omega
  rw [this]
  exact Int.dvd_neg.mpr (Int.dvd_mul_of_dvd_left hz)
/-- remainders that agree two by two have a common value -/
theorem crt_ex : ∀ l : List (Int × Int), (∀ a ∈ l, 0 < a.1) → (∀ a ∈ l, ∀ b ∈ l, (Int.gcd a.1 b.1 : Int) ∣ a.2 - b.2) → ∃ X, ∀ a ∈ l, a.1 ∣ X - a.2
  | [], _, _ => ⟨0, fun a h => by simp at h⟩
  | (m, r) :: l, hp, hc => by
    obtain ⟨X0, h0⟩ := crt_ex l (fun a h => hp a (List.mem_cons_of_mem _ h)) (fun a h b g => hc a (List.mem_cons_of_mem _ h) b (List.mem_cons_of_mem _ g))
    have hm : 0 < m := hp (m, r) (List.mem_cons_self ..)
    have hg : (Int.gcd (lcmF (l.map Prod.fst)) m : Int) ∣ r - X0 := by
      rw [gcd_lcmF hm]
      refine (lcmF_dvd _ _).mpr fun f hf => ?_
      obtain ⟨g, hg, rfl⟩ := List.mem_map.mp hf
      obtain ⟨a, ha, rfl⟩ := List.mem_map.mp hg
      have a1 := hc (m, r) (List.mem_cons_self ..) a (List.mem_cons_of_mem _ ha)
      rw [Int.gcd_comm] at a1
      have a2 : (Int.gcd a.1 m : Int) ∣ X0 - a.2 := Int.dvd_trans (Int.gcd_dvd_left ..) (h0 a ha)
      have := Int.dvd_sub a1 a2
      rwa [show (m, r).2 - a.2 - (X0 - a.2) = r - X0 by show r - a.2 - (X0 - a.2) = _; omega] at this
    obtain ⟨t, ht⟩ := crt_step hm (lcmF_nn _) hg
    refine ⟨X0 + lcmF (l.map Prod.fst) * t, fun a ha => ?_⟩
    rcases List.mem_cons.mp ha with rfl | ha
    · show m ∣ X0 + _ - r
      rwa [show X0 + lcmF (l.map Prod.fst) * t - r = lcmF (l.map Prod.fst) * t - (r - X0) by omega]
    · have d : a.1 ∣ lcmF (l.map Prod.fst) * t := Int.dvd_mul_of_dvd_left ((lcmF_dvd (l.map Prod.fst) _).mp (Int.dvd_refl _) a.1 (List.mem_map.mpr ⟨a, ha, rfl⟩))
      rw [show X0 + lcmF (l.map Prod.fst) * t - a.2 = (X0 - a.2) + lcmF (l.map Prod.fst) * t by omega]
      exact Int.dvd_add (h0 a ha) d
/-- items that fit have a value at each place -/
theorem fit_ex {xs : List (Int × Int)} (h : ∀ x ∈ xs, ∀ y ∈ xs, (x.1 - y.1) ∣ (x.2 - y.2)) (pl : Int) : ∃ X, ∀ x ∈ xs, (pl - x.1) ∣ (X - x.2) := by
  by_cases ht : ∃ x ∈ xs, x.1 = pl
  · obtain ⟨x, hx, rfl⟩ := ht
    exact ⟨x.2, fun y hy => h x hx y hy⟩
  · obtain ⟨X, hX⟩ := crt_ex (xs.map fun x => (((pl - x.1).natAbs : Int), x.2)) (fun a ha => by
      obtain ⟨x, hx, rfl⟩ := List.mem_map.mp ha
      have : pl - x.1 ≠ 0 := fun z => ht ⟨x, hx, by omega⟩
      show 0 < ((pl - x.1).natAbs : Int)
      omega) (fun a ha b hb => by
      obtain ⟨x, hx, rfl⟩ := List.mem_map.mp ha
      obtain ⟨y, hy, rfl⟩ := List.mem_map.mp hb
      show (Int.gcd ((pl - x.1).natAbs : Int) ((pl - y.1).natAbs : Int) : Int) ∣ x.2 - y.2
      have d1 : (Int.gcd ((pl - x.1).natAbs : Int) ((pl - y.1).natAbs : Int) : Int) ∣ pl - x.1 := Int.dvd_trans (Int.gcd_dvd_left ..) (Int.natAbs_dvd.mpr (Int.dvd_refl _))
      have d2 : (Int.gcd ((pl - x.1).natAbs : Int) ((pl - y.1).natAbs : Int) : Int) ∣ pl - y.1 := Int.dvd_trans (Int.gcd_dvd_right ..) (Int.natAbs_dvd.mpr (Int.dvd_refl _))
      have := Int.dvd_sub d2 d1
      rw [show pl - y.1 - (pl - x.1) = x.1 - y.1 by omega] at this
      exact Int.dvd_trans this (h x hx y hy))
    refine ⟨X, fun x hx => ?_⟩
    have := hX _ (List.mem_map.mpr ⟨x, hx, rfl⟩)
    exact Int.natAbs_dvd.mp this
end PW
/-! PWT -/
namespace PW
open PySem L2 PyProof.Rows
section
variable {X : Cx} {P : XP} {F : Hp} {M : Cells} {δ : Slots} {σ : L2.St} {H : Hp} {e a b c o : Expr} {es : List Expr} {pos apos cpos p p2 q : Pos}
theorem Stt.setAt {K : PySem.W.Frag} (S : Stt K F M δ σ H) {k : Nat} {a : Addr} {w : World} {f : Int → Bool} {n : Nat} (h : M[k]? = some (a, .set w f n)) : H a = some (SetO w a f n) := S.cell _ (List.mem_of_getElem? h)
/-- sorted(s), s a set of ints: a cell -/
theorem we_sortedS {Q : D → Cells → Prop} (hc : X.calm = true) (hg : Gl X "sorted") (hm : X.mg "sorted" = none)
    (h : WE X P a δ M fun d M1 => ∃ (q : Addr) (k : Nat) (f : Int → Bool) (n : Nat), d = .cel q ∧ M1[k]? = some (q, .set X.w f n) ∧ n < 64 ∧ ∀ (ns : List Int) (p : Addr), ns.Pairwise (· < ·) → (∀ k, k ∈ ns ↔ f k = true) → ns.length = n → Q (.cel p) ((p, .lst (ns.map D.int)) :: M1))
    (he : starEach [a] X.env = (false, eval a X.env) :: starEach [] X.env := by rfl) (hpl : (backTo pos (starEach [] X.env)).any (·.1) = false := by rfl) :
    WE X P (.Call (.Name "sorted" p) [a] [] pos) δ M Q :=
  we_of (pe_callB (cr_sortedSet hc) hg hm (by decide +kernel) (pa_cons pe_sem pa_nil he) (by decide) (by decide) he hpl) fun σ H F G =>
    h.go G fun v H1 F1 M1 d s1 G1 r1 q1 => by
      obtain ⟨q, k, f, n, rfl, hk, hn, q1⟩ := q1
      cases r1
      refine ⟨q, f, n, rfl, G1.st.setAt hk, hn, fun ns p h1 h2 h3 hp => ?_⟩
      exact ret (G1.st.newL hp (Reps.ints ns)) s1 (.cel p) (q1 ns p h1 h2 h3)

def pD (x : Int × Int) : D := .tup [.int x.1, .int x.2]
def LexLe (x y : Int × Int) : Prop := x.1 < y.1 ∨ (x.1 = y.1 ∧ x.2 ≤ y.2)
def PairAt (K : PySem.W.Frag) (H : Hp) (x : V) (i : Int × Int) : Prop := ∃ t, x = .ref t ∧ SqT K H t [.int i.1, .int i.2]
def rSortedP2 (K : PySem.W.Frag) : List V → Hp → VK → Prop := fun vs H Q => ∃ (a : Addr) (xs : List V) (ps : List (Int × Int)), vs = [.ref a] ∧ SqL K H a xs ∧ Paired (PairAt K H) xs ps ∧
  ∀ (zs : List (V × (Int × Int))) (p : Addr), zs.Perm (xs.zip ps) → zs.Pairwise (fun x y => LexLe x.2 y.2) → H p = none → Q (.ref p) (upd H p (.lst (zs.map Prod.fst)))
theorem prd_zip {α β : Type} {R : α → β → Prop} {k : α → β} : ∀ {xs : List α} {ps : List β}, Paired R xs ps → (∀ x p, R x p → p = k x) → xs.zip ps = xs.map fun x => (x, k x)
  | _, _, .nil, _ => rfl
  | _, _, .cons h t, g => by
    rw [List.zip_cons_cons, List.map_cons, prd_zip t g, g _ _ h]
theorem prd_mem {α β : Type} {R : α → β → Prop} : ∀ {xs : List α} {ps : List β}, Paired R xs ps → ∀ x ∈ xs, ∃ p, R x p
  | _, _, .nil, x, h => by cases h
  | _, _, .cons h t, x, hx => by
    rcases List.mem_cons.mp hx with rfl | hx
    · exact ⟨_, h⟩
    · exact prd_mem t x hx
/-- the pair that a value is, by the heap's abstract reading (any, where it is none) -/
noncomputable def pairOf (K : PySem.W.Frag) (H : Hp) (x : V) : Int × Int := open Classical in if h : ∃ p, PairAt K H x p then h.choose else (0, 0)
theorem pairOf_at {pins : List (Addr × Obj)} {s : Shared} (I : Inv X pins σ H s) {x : V} {p : Int × Int} (h : PairAt X.K H x p) : p = pairOf X.K H x := by
  have ex : ∃ p', PairAt X.K H x p' := ⟨p, h⟩
  have e : pairOf X.K H x = ex.choose := dif_pos ex
  rw [e]
  obtain ⟨t, e1, h1⟩ := h
  obtain ⟨t', e2, h2⟩ := ex.choose_spec
  rw [e1] at e2
  cases e2
  have z := I.tuple_inj h1 h2
  simp only [List.cons.injEq, V.int.injEq, and_true] at z
  exact Prod.ext z.1 z.2
/-- such a value in the heap -/
theorem pair_held {pins : List (Addr × Obj)} {s : Shared} (I : Inv X pins σ H s) {t : Addr} {p : Int × Int} (h : PairAt X.K H (.ref t) p) : Srt.IsPair s.heap (.ref t) p.1 p.2 := by
  obtain ⟨t', e, g⟩ := h
  cases e
  obtain ⟨its, rr, ⟨o, o1, o2, n, o3⟩, _⟩ := I.tuple g
  obtain ⟨u, u', e', r1, r2⟩ := vals2 rr
  obtain ⟨k1, rfl⟩ := r1
  obtain ⟨k2, rfl⟩ := r2
  rw [e'] at o3
  exact ⟨t, o, k1, k2, n, rfl, o1, o2, o3⟩
theorem cr_sortedP2 : CallR X (.builtin "sorted") (rSortedP2 X.K) := by
  intro pins s σ H args us Q I r h
  obtain ⟨a, xs, ps, rfl, hs, hx, q⟩ := h
  obtain ⟨its, rv, pl, sz⟩ := I.list hs
  obtain rfl := Vals.ref1 r
  have key : ∀ x ∈ xs, PairAt X.K H x (pairOf X.K H x) := fun x m => by
    obtain ⟨p, hp⟩ := prd_mem hx x m
    rw [← pairOf_at I hp]
    exact hp
  obtain ⟨back, refs⟩ := refs_back rv fun x m => (key x m).imp fun _ z => z.1
  have its_sz : its.length ≤ sizeLine := by rw [← rv.length]; exact sz
  refine SrtO.sorted_pairsO (k := pairOf X.K H ∘ backV) pl.isList its_sz ?_ ?_
  · intro u hu
    obtain ⟨t, e⟩ := refs u hu
    subst e
    refine pair_held I (key _ ?_)
    rw [back]
    exact List.mem_map_of_mem hu
  · intro h2 d out srt stb keeps new laid
    obtain ⟨n, laid⟩ := laid
    have prm : (out.map backV).Perm xs := by
      rw [back]
      exact stb.perm.map backV
    have q2 := q ((out.map backV).map fun x => (x, pairOf X.K H x)) d (by rw [prd_zip hx fun _ _ z => pairOf_at I z]; exact prm.map _) (by
      rw [List.pairwise_map, List.pairwise_map]
      refine List.Pairwise.imp (fun {x y} z => ?_) srt
      have z' := SrtO.lexB_no.mp z
      simp only [Function.comp] at z'
      show (pairOf X.K H (backV x)).1 < (pairOf X.K H (backV y)).1 ∨ ((pairOf X.K H (backV x)).1 = (pairOf X.K H (backV y)).1 ∧ (pairOf X.K H (backV x)).2 ≤ (pairOf X.K H (backV y)).2)
      omega) (I.hok.fresh new)
    have e : ((out.map backV).map fun x => (x, pairOf X.K H x)).map Prod.fst = out.map backV := by simp
    rw [e] at q2
    exact ⟨.ref d, upd H d (.lst (out.map backV)), I.laid (t' := s.toks) keeps new ⟨by rw [prm.length_eq]; exact sz, out, n, vals_back fun u m => refs u (stb.perm.mem_iff.mp m), laid⟩, rfl, q2⟩
theorem reps_pairs {K : PySem.W.Frag} (s : Same F H) : ∀ {ps : List (Int × Int)} {vs : List V}, Reps K F vs (ps.map pD) → Paired (PairAt K H) vs ps
  | [], _, h => by cases h; exact .nil
  | p :: ps, _, h => by
    cases h with
    | cons a b =>
      refine .cons ?_ (reps_pairs s b)
      cases a with
      | tup h1 h2 =>
        cases h2 with
        | cons r1 r2 =>
          cases r2 with
          | cons r2 r3 =>
            cases r1; cases r2; cases r3
            exact ⟨_, rfl, Same.tup s h1⟩
theorem reps_zip {K : PySem.W.Frag} {f : Int × Int → D} : ∀ {ps : List (Int × Int)} {vs : List V}, Reps K F vs (ps.map f) → ∀ z ∈ vs.zip ps, Rep K F z.1 (f z.2)
  | [], _, h, z, hz => by simp at hz
  | p :: ps, _, h, z, hz => by
    cases h with
    | cons a b =>
      rw [List.zip_cons_cons] at hz
      rcases List.mem_cons.mp hz with rfl | hz
      · exact a
      · exact reps_zip b z hz
theorem reps_of_mem {K : PySem.W.Frag} {α : Type} {g : α → V} {f : α → D} : ∀ {zs : List α}, (∀ z ∈ zs, Rep K F (g z) (f z)) → Reps K F (zs.map g) (zs.map f)
  | [], _ => .nil
  | z :: zs, h => .cons (h z List.mem_cons_self) (reps_of_mem fun y hy => h y (List.mem_cons_of_mem _ hy))
/-- sorted(xs), xs a list of pairs: a new list, frozen -/
theorem we_sortedP {Q : D → Cells → Prop} (hg : Gl X "sorted") (hm : X.mg "sorted" = none)
    (h : WE X P a δ M fun d M1 => ∃ ps : List (Int × Int), LV M1 d (ps.map pD) ∧ ∀ qs : List (Int × Int), qs.Perm ps → qs.Pairwise LexLe → Q (.lst (qs.map pD)) M1)
    (he : starEach [a] X.env = (false, eval a X.env) :: starEach [] X.env := by rfl) (hpl : (backTo pos (starEach [] X.env)).any (·.1) = false := by rfl) :
    WE X P (.Call (.Name "sorted" p) [a] [] pos) δ M Q :=
  we_of (pe_callB cr_sortedP2 hg hm (by decide +kernel) (pa_cons pe_sem pa_nil he) (by decide) (by decide) he hpl) fun σ H F G =>
    h.go G fun v H1 F1 M1 d s1 G1 r1 q1 => by
      obtain ⟨ps, hl, q1⟩ := q1
      obtain ⟨l, vs, rfl, e1, e2⟩ := G1.st.readL r1 hl
      refine ⟨l, vs, ps, rfl, e1, reps_pairs G1.st.le e2, fun zs p h1 h2 hp => ?_⟩
      have hln : vs.length = ps.length := by rw [e2.length, List.length_map]
      have q2 := q1 (zs.map Prod.snd) (by
        have := h1.map Prod.snd
        rw [List.map_snd_zip (by omega)] at this
        exact this) (List.pairwise_map.mpr h2)
      obtain ⟨S, s2⟩ := G1.st.froz (o := .lst (zs.map Prod.fst)) hp
      refine ret S (s1.trans s2) (.lst (.of upd_same) ?_) q2
      rw [List.map_map]
      exact reps_of_mem fun z hz => (reps_zip e2 z (h1.mem_iff.mp hz)).up s2
end
end PW
/-! PWU -/
namespace PW
open PySem L2 PyProof.Rows
def Small (i : Int) : Prop := i.natAbs ≤ 10 ^ 30
def itemD (x : Int × Int) : D := .tup [.int x.1, .int x.2]
def bookD (xs : List (Int × Int)) : List D := xs.map itemD
def BookOk (xs : List (Int × Int)) : Prop := xs.length ≤ 24 ∧ (∀ x ∈ xs, Small x.1 ∧ Small x.2) ∧ (xs.map Prod.fst).Pairwise (· < ·)
theorem cutD_1 (ds : List D) : cutD ds (some 1) none = ds.drop 1 := by
  unfold cutD
  have e : HT.sIx ds.length 0 (some 1) = min 1 ds.length := by
    show (if (1 : Int) < 0 then ((1 : Int) + (ds.length : Int)).toNat else min (1 : Int).toNat ds.length) = _
    rw [if_neg (by decide)]; rfl
  rw [e]
  show List.take (ds.length - min 1 ds.length) (ds.drop (min 1 ds.length)) = _
  cases ds with
  | nil => rfl
  | cons c cs => simp
theorem all_true {α : Type} (xs : List α) : ∃ bs : List Bool, bs.map D.bl = xs.map (fun _ => D.bl true) ∧ bs.all id = true := ⟨List.replicate xs.length true, by rw [List.map_replicate]; exact (List.map_const' ..).symm, by simp⟩
theorem LV.app {M : Cells} {d : D} {ds : List D} (h : LV M d ds) : ∀ rest : Cells, LV (rest ++ M) d ds
  | [] => h
  | _ :: rest => (LV.app h rest).cons
section
variable {X : Cx} {P : XP} {F : Hp} {M : Cells} {δ : Slots} {σ : L2.St} {H : Hp} {e : Expr}
theorem WE.few {Q : D → Cells → Prop} (h : WE X P e δ M fun d M' => ∃ M0 : Cells, M0.Sublist M' ∧ Q d M0) : WE X P e δ M Q := fun σ H F G => h.go G fun v H1 F1 M1 d s1 G1 r1 q1 => by
  obtain ⟨M0, hs, q⟩ := q1
  exact ret (G1.st.fewer hs) s1 r1 q
theorem wb_drop {b : List Stmt} {E : En} {M0 : Cells} (hM : M0.Sublist M) (h : WB X P b δ M0 E) : WB X P b δ M E := fun σ H F G => h σ H F ⟨G.st.fewer hM, G.tk⟩
end
theorem okDs_book : ∀ xs : List (Int × Int), okDs (bookD xs) = true
  | [] => rfl
  | x :: xs => by
    show (okD (itemD x) && okDs (bookD xs)) = true
    rw [okDs_book xs]
    rfl
theorem lay_book : ∀ xs : List (Int × Int), PyData.canLayAll0 (pys (bookD xs)) = true
  | [] => by simp [bookD, pys, PyData.canLayAll0]
  | x :: xs => by
    show (PyData.canLayAll0 (.tuple [.int x.1, .int x.2] :: pys (bookD xs))) = true
    simp [PyData.canLayAll0, PyData.canLay0, lay_book xs]
theorem dep_book : ∀ xs : List (Int × Int), PyData.depthAll (pys (bookD xs)) ≤ 4
  | [] => by simp [bookD, pys, PyData.depthAll]
  | x :: xs => by
    have := dep_book xs
    show PyData.depthAll (.tuple [.int x.1, .int x.2] :: pys (bookD xs)) ≤ 4
    simp only [PyData.depthAll, PyData.depth]
    omega
theorem shaped_list {xs : List PyData} (h1 : PyData.canLayAll0 xs = true) (h2 : PyData.depthAll xs ≤ 60) : SeqAt.shaped (.list xs) = true := by
  have h3 : PyData.depth (.list xs) ≤ 64 := by simp only [PyData.depth]; omega
  unfold SeqAt.shaped
  rw [Bool.and_eq_true]
  exact ⟨by simp only [PyData.canLay0]; exact h1, decide_eq_true h3⟩
theorem shaped_book (xs : List (Int × Int)) : SeqAt.shaped (.list (pys (bookD xs))) = true := shaped_list (lay_book xs) (Nat.le_trans (dep_book xs) (by decide))
theorem okDs_ints : ∀ xs : List Int, okDs (xs.map D.int) = true
  | [] => rfl
  | x :: xs => by show (true && okDs (xs.map D.int)) = true; rw [okDs_ints xs]; rfl
theorem lay_ints : ∀ xs : List Int, PyData.canLayAll0 (pys (xs.map D.int)) = true ∧ PyData.depthAll (pys (xs.map D.int)) ≤ 4
  | [] => by simp [pys, PyData.canLayAll0, PyData.depthAll]
  | x :: xs => by
    have := lay_ints xs
    show PyData.canLayAll0 (.int x :: pys (xs.map D.int)) = true ∧ PyData.depthAll (.int x :: pys (xs.map D.int)) ≤ 4
    simp only [PyData.depthAll, PyData.depth, PyData.canLayAll0, PyData.canLay0, this.1]
    exact ⟨rfl, by omega⟩
section
variable {X : Cx} {P : XP} {F : Hp} {M : Cells} {δ : Slots} {σ : L2.St} {H : Hp} {a : Expr} {pos p : Pos}
end
theorem CL.imp {M : Cells} {b : Addr} {R R' : List D → (List D → Cells) → Prop} (h : CL M b R) (k : ∀ L f, R L f → R' L f) : CL M b R' := let ⟨i, L, h1, h2⟩ := h; ⟨i, L, h1, k _ _ h2⟩
theorem shaped_ints (xs : List Int) : SeqAt.shaped (.list (pys (xs.map D.int))) = true := shaped_list (lay_ints xs).1 (Nat.le_trans (lay_ints xs).2 (by decide))
end PW
/-! PWV -/
namespace PW
open PySem L2 PyProof.Rows
theorem reps_rg {K : PySem.W.Frag} {F : Hp} (a b : Int) : Reps K F (rgV a b) (rangeD a (b - a).toNat) := by
  unfold rgV rangeD
  exact reps_of_mem fun z _ => .int _
section
variable {X : Cx} {P : XP} {F : Hp} {M : Cells} {δ : Slots} {σ : L2.St} {H : Hp} {e a b c o : Expr} {es : List Expr} {pos pos' p p1 p2 p3 q : Pos}
/-- xs * k, xs a list just made -/
theorem we_mulL {Q : D → Cells → Prop} (h : WE X P a δ M fun d M1 => WE X P b δ M1 fun e M2 => ∃ (k : Nat) (p : Addr) (ds : List D) (n : Int), d = .cel p ∧ M2[k]? = some (p, .lst ds) ∧ e = .int n ∧ -(2 ^ 63) ≤ n ∧ n < 2 ^ 63 ∧ ds.length * n.toNat ≤ sizeLine ∧ Q (.lst (List.replicate n.toNat ds).flatten) (M2.eraseIdx k)) : WE X P (.BinOp a .Mult b pos) δ M Q :=
  we_of (pe_op op_rep pe_sem pe_sem) fun σ H F G => h.go G fun v H1 F1 M1 d s1 G1 r1 q1 => q1.go G1 fun u H2 F2 M2 e s2 G2 r2 q2 => by
    obtain ⟨k, p, ds, n, rfl, hk, rfl, h1, h2, h3, q2⟩ := q2
    cases r1; cases r2
    obtain ⟨vs, e1, e2, e3⟩ := G2.st.cellAt (List.mem_of_getElem? hk)
    refine ⟨p, n, vs, rfl, rfl, e1, h1, h2, by rw [e3.length]; exact h3, fun q hq => ?_⟩
    obtain ⟨S, s3⟩ := (G2.st.fewer (List.eraseIdx_sublist M2 k)).froz (o := .lst (List.replicate n.toNat vs).flatten) hq
    exact ret S ((s1.trans s2).trans s3) (.lst (.of upd_same) ((e3.replicate n.toNat).up s3)) q2
/-- lists of ints: the same, or not -/
theorem eqv_ints : ∀ {xs ys : List Int}, PyData.eqv (.list (pys (xs.map D.int))) (.list (pys (ys.map D.int))) = decide (xs = ys)
  | [], [] => rfl
  | [], y :: ys => (decide_eq_false (by simp)).symm
  | x :: xs, [] => (decide_eq_false (by simp)).symm
  | x :: xs, y :: ys => by
    have ih := eqv_ints (xs := xs) (ys := ys)
    by_cases h : x :: xs = y :: ys
    · rw [h, decide_eq_true rfl, PySem.SeqAt.eqv_refl _ (SeqAt.canLay_of_shaped (shaped_ints _))]
    · rw [decide_eq_false h]
      show (PyData.eqv (.int x) (.int y) && PyData.eqv (.list (pys (xs.map D.int))) (.list (pys (ys.map D.int)))) = false
      rw [ih]
      show (decide (x = y) && _) = false
      by_cases h1 : x = y
      · subst h1
        have h2 : ¬ xs = ys := fun z => h (by rw [z])
        simp [h2]
      · simp [h1]
theorem req_intsN {d e : D} {xs ys : List Int} {Q : D → Cells → Prop} (h1 : LV M d (xs.map D.int)) (h2 : LV M e (ys.map D.int)) (q : Q (.bl (!decide (xs = ys))) M) : REq true d e M Q := by
  have hv : ∀ {d : D} {zs : List Int}, LV M d (zs.map D.int) → PV M d (.list (pys (zs.map D.int))) := fun {d zs} h => by
    rcases h with rfl | ⟨k, a, rfl, h⟩
    · exact .fz (okDs_ints _)
    · exact .cl k h (okDs_ints _)
  refine req_dN (hv h1) (hv h2) (shaped_ints _) (shaped_ints _) ?_
  rw [eqv_ints]
  exact q
end
end PW
/-! PWX -/
namespace PW
open PySem L2 PyProof.Rows
section
variable {X : Cx} {P : XP} {F : Hp} {M : Cells} {δ : Slots} {σ : L2.St} {H : Hp} {e : Expr} {pos : Pos} {E : En}
end
end PW
/-! PWR -/
namespace PW
open PySem L2 PyProof.Rows
mutual
inductive RP (M : Cells) : D → PyData → Prop
  | non : RP M .non .none
  | bl (b : Bool) : RP M (.bl b) (.bool b)
  | int (i : Int) : RP M (.int i) (.int i)
  | str (x : Str) : RP M (.str x) (.str x)
  | tup {ds : List D} {qs : List PyData} : RPs M ds qs → RP M (.tup ds) (.tuple qs)
  | lst {ds : List D} {qs : List PyData} : RPs M ds qs → RP M (.lst ds) (.list qs)
  | cel {k : Nat} {a : Addr} {ds : List D} {qs : List PyData} : M[k]? = some (a, .lst ds) → RPs M ds qs → RP M (.cel a) (.list qs)
inductive RPs (M : Cells) : List D → List PyData → Prop
  | nil : RPs M [] []
  | cons {d : D} {q : PyData} {ds : List D} {qs : List PyData} : RP M d q → RPs M ds qs → RPs M (d :: ds) (q :: qs)
end
theorem RPs.ints {M : Cells} : ∀ ns : List Int, RPs M (ns.map D.int) (ns.map PyData.int)
  | [] => .nil
  | n :: ns => .cons (.int n) (RPs.ints ns)
section
variable {K : PySem.W.Frag} {F H : Hp} {M : Cells} {δ : Slots} {σ : L2.St}
mutual
theorem Stt.readN (S : Stt K F M δ σ H) : ∀ (q : PyData) (d : D) (v : V), RP M d q → Rep K F v d → Dp K H v q
  | .none, _, _, h, r => by cases h; cases r; exact .non
  | .bool _, _, _, h, r => by cases h; cases r; exact .bl _
  | .int _, _, _, h, r => by cases h; cases r; exact .int _
  | .str _, _, _, h, r => by cases h; cases r; exact .str _
  | .tuple qs, _, _, h, r => by
    cases h with | tup h1 => cases r with | tup a b => exact .tup (Same.tup S.le a) (Stt.readNs S qs _ _ h1 b)
  | .list qs, _, _, h, r => by
    cases h with
    | lst h1 => cases r with | lst a b => exact .lst (S.le.seq a) (Stt.readNs S qs _ _ h1 b)
    | cel e h1 =>
      cases r
      obtain ⟨vs, e1, _, e3⟩ := S.cellAt (List.mem_of_getElem? e)
      exact .lst (.of e1) (Stt.readNs S qs _ _ h1 e3)
  | .dict _, _, _, h, _ => by cases h
theorem Stt.readNs (S : Stt K F M δ σ H) : ∀ (qs : List PyData) (ds : List D) (vs : List V), RPs M ds qs → Reps K F vs ds → DpAll K H vs qs
  | [], _, _, h, r => by cases h; cases r; exact .nil
  | q :: qs, _, _, h, r => by cases h with | cons h1 h2 => cases r with | cons a b => exact .cons (Stt.readN S q _ _ h1 a) (Stt.readNs S qs _ _ h2 b)
end
mutual
theorem dp_noDict : ∀ (d : PyData) (v : V), Dp K H v d → d.hasDict = false
  | .none, _, _ => by simp only [PyData.hasDict]
  | .bool _, _, _ => by simp only [PyData.hasDict]
  | .int _, _, _ => by simp only [PyData.hasDict]
  | .str _, _, _ => by simp only [PyData.hasDict]
  | .list xs, _, h => by cases h with | lst _ a => simp only [PyData.hasDict]; exact dps_noDict xs _ a
  | .tuple xs, _, h => by cases h with | tup _ a => simp only [PyData.hasDict]; exact dps_noDict xs _ a
  | .dict _, _, h => by cases h
theorem dps_noDict : ∀ (ds : List PyData) (vs : List V), DpAll K H vs ds → PyData.hasDictAll ds = false
  | [], _, _ => by simp only [PyData.hasDictAll]
  | d :: ds, _, h => by
    cases h with | cons a b => simp only [PyData.hasDictAll, dp_noDict d _ a, dps_noDict ds _ b]; rfl
end
end
section
variable {X : Cx} {P : XP} {F : Hp} {M : Cells} {δ : Slots} {σ : L2.St} {H : Hp} {e a b c o : Expr} {es : List Expr} {pos apos cpos p p2 : Pos}
end
section
variable {P : Program} {w : World} {K : PySem.W.Frag} {mg : Str → Option Value} {base : Heap}
end
section
variable {X : Cx} {P : XP} {F : Hp} {M : Cells} {δ : Slots} {σ : L2.St} {H : Hp} {e a b c o : Expr} {es : List Expr} {pos apos cpos p p2 : Pos}
end
section
variable {P : Program} {w : World} {K : PySem.W.Frag} {mg mb : Str → Option Value} {CX : CXT} {fa a : Addr} {fd : FuncData} {x : Str} {sp : Sp} {s₁ : Shared} {vs : List Value} {ns : List Int}
end
end PW
/-! PWQ -/
set_option exponentiation.threshold 100000
namespace PW
open PySem L2 PyProof.Rows
section
variable {prog : Program} {w : World}
end
section
variable {X : Cx} {P : XP} {F : Hp} {M : Cells} {δ : Slots} {σ : L2.St} {H : Hp} {e : Expr} {pos p : Pos}
end
section
variable {P : Program} {w : World} {K : PySem.W.Frag} {mg mb : Str → Option Value} {CX : CXT} {fa a : Addr} {fd : FuncData} {x : Str} {sp : Sp} {s₁ : Shared} {vs : List Value} {ns : List Int}
end
end PW
/-! PWP -/
set_option exponentiation.threshold 100000
namespace PW
open PySem L2 PyProof.Rows
section
variable {X : Cx} {P : XP} {F : Hp} {M : Cells} {δ : Slots} {σ : L2.St} {H : Hp} {e : Expr} {pos p : Pos}
end
end PW
/-! PWO -/
namespace PW
open PySem L2 PyProof.Rows
section
variable {X : Cx} {P : XP} {F : Hp} {M : Cells} {δ : Slots} {σ : L2.St} {H : Hp} {a b : Expr} {pos p : Pos}
end
end PW
/-! PWL -/
set_option exponentiation.threshold 100000
namespace PW
open PySem L2 PyProof.Rows
section
variable {X : Cx} {P : XP} {F : Hp} {M : Cells} {δ : Slots} {σ : L2.St} {H : Hp} {a b e : Expr} {pos p : Pos}
end
end PW
/-! PWD -/
namespace PW
open PySem L2 PyProof.Rows
section
variable {P : Program} {w : World} {K : PySem.W.Frag} {mg : Str → Option Value} {base : Heap}
end
section
variable {X : Cx} {P : XP} {F : Hp} {M : Cells} {δ : Slots} {σ : L2.St} {H : Hp} {e a b c o : Expr} {es : List Expr} {pos apos cpos p p2 : Pos}
end
end PW
/-! PWE -/
namespace PW
open PySem L2 PyProof.Rows
section
variable {X : Cx} {P : XP} {F : Hp} {M : Cells} {δ : Slots} {σ : L2.St} {H : Hp} {e e1 e2 : Expr} {es : List Expr} {pos p : Pos} {E : En} {R : Ex → Cells → Prop}
end
section
variable {X : Cx} {P : XP} {F : Hp} {M : Cells} {δ : Slots} {σ : L2.St} {H : Hp} {e : Expr} {pos : Pos} {E : En}
end
end PW
/-! PWF -/
namespace PW
open PySem L2 PyProof.Rows
section
variable {X : Cx} {P : XP} {F : Hp} {M : Cells} {δ : Slots} {σ : L2.St} {H : Hp} {a b : Expr} {pos p : Pos}
end
def Clr (Q : D → Cells → Prop) : Prop := ∀ p es rest M', Q (.lst es) M' → Q (.cel p) (rest ++ (p, .lst es) :: M')
theorem fn_frr {P : Program} {w : World} {K : PySem.W.Frag} {mg : Str → Option Value} {base : Heap} {k : Nat} {f : Addr} {fd : FuncData} {ps : List Str} {T T' : TSp} (h : ∀ ds M Q E, Clr Q → T' ds M Q E → T ds M Q E) (Fo : FnOk P w K mg base (L2.CX P w) k f fd ps (spG K T)) :
    FnOk P w K mg base (L2.CX P w) k f fd ps (spG K T') :=
  Fo.imp fun vs H Q E ⟨F, M, ds, S, r, t⟩ => ⟨F, M, ds, S, r, h _ _ _ _ (fun p es rest M' q v F' H' s' S' r' => by
    cases r'
    obtain ⟨F2, s2, S2, r2⟩ := (S'.fewer (List.sublist_append_right rest _)).freeze (k := 0) rfl
    exact q _ F2 H' (s'.trans s2) S2 r2) t⟩
end PW
/-! PWG -/
namespace PW
open PySem PySem.Spec L2 PyProof.Rows
abbrev lstO (acc : Array Value) (c : Nat) : Obj := { cls := .type "list", dict := none, data := .seq acc c, slots := #[] }
section
variable {prog : Program} {w : World} {A : Around} {R : Result → Shared → Prop} {I S : Addr} {res : Value} {n : Nat}
/-- the loop of list(iterator) -/
theorem ext_loop (hn : n ≤ sizeLine) (J : Nat → Shared → Array Value → Prop)
    (turn : ∀ i s acc, i < n → J i s acc → acc.size = i → wpAny (model prog w) A.in1 (pyNext (.ref I)) (fun r s' => ∃ v c, r = some v ∧ s'.heap.get? S = some (lstO acc c) ∧ ∀ h'' c2, (∀ b o, b ≠ S → s'.heap.get? b = some o → h''.get? b = some o) → h''.get? S = some (lstO (acc.push v) c2) → J (i + 1) { s' with heap := h'' } (acc.push v)) (fun e s' => R (.error e) s') s)
    (fin : ∀ s acc, J n s acc → acc.size = n → wpAny (model prog w) A.in1 (pyNext (.ref I)) (fun r s' => r = none ∧ R (.ok (.ret res)) s') (fun e s' => R (.error e) s') s) :
    ∀ (k i : Nat) (s : Shared) (acc : Array Value), n - i = k → i ≤ n → J i s acc → acc.size = i → codeAny (model prog w) A (.builtin "list.extend.loop" ⟨[.ref S, .ref I, res], []⟩) R s := by
  intro k
  induction k with
  | zero =>
    intro i s acc hk hi hj hs
    have hin : i = n := by omega
    subst hin
    refine codeAny_builtin F.entry_extend_loop ?_
    rw [Around.under_plainId F.plain_extend_loop _]
    show wpAny _ A.in1 (pyNext (.ref I) >>= _) _ _ s
    refine wpAny_bind (L2.thn (fin s acc hj hs) fun r s' ⟨hr, q⟩ => ?_)
    subst hr
    exact wpAny_pure q
  | succ k ih =>
    intro i s acc hk hi hj hs
    have hlt : i < n := by omega
    refine codeAny_builtin F.entry_extend_loop ?_
    rw [Around.under_plainId F.plain_extend_loop _]
    show wpAny _ A.in1 (pyNext (.ref I) >>= _) _ _ s
    refine wpAny_bind (L2.thn (turn i s acc hlt hj hs) fun r s' ⟨v, c, hr, hS, go⟩ => ?_)
    subst hr
    show wpAny _ A.in1 (updateSeq S (·.push v) >>= _) _ _ _
    refine wpAny_bind ?_
    refine wpAny_updateSeq hS rfl (wpAny_pure ⟨plainId_quiet F.plain_extend_loop _, ih (i + 1) _ (acc.push v) (by omega) hlt (go _ _ (fun b o hb e => (Heap.get?_update_other _ _ (Ne.symm hb)).trans e) (Heap.get?_update_self _ hS rfl)) (by rw [Array.size_push, hs])⟩)
      (by rw [hs]; omega) (by show (acc.push v).size ≤ sizeLine + 1; rw [Array.size_push, hs]; omega)
end
section
variable {prog : Program} {w : World} {A : Around} {E : Value → Shared → Prop} {s : Shared} {I : Addr} {T : String}
/-- list(an iterator without a length) -/
theorem call_list_it {Q : Value → Shared → Prop} {o : Obj} (ho : s.heap.get? I = some o) (hc : o.cls = .type T) (t1 : (Value.type T == Value.type "list") = false) (t2 : (Value.type T == Value.type "tuple") = false)
    (nl : typeLookup (.type T) "__len__" = pure none) (nh : typeLookup (.type T) "__length_hint__" = pure none)
    (self : ∀ (A : Around) (h : Heap) (Q : Value → Shared → Prop) (E : Value → Shared → Prop), (∀ b o, s.heap.get? b = some o → h.get? b = some o) → Q (.ref I) { s with heap := h } → wpAny (model prog w) A (pyIter (.ref I)) Q E { s with heap := h })
    (loop : ∀ (h : Heap) (c : Nat) (R : Result → Shared → Prop), (∀ b o, s.heap.get? b = some o → h.get? b = some o) → h.get? s.heap.objs.size = some (lstO #[] c) → (∀ s', Q (.ref s.heap.objs.size) s' → R (.ok (.ret .none)) s') →
      codeAny (model prog w) A.in1 (.builtin "list.extend.loop" ⟨[.ref s.heap.objs.size, .ref I, .none], []⟩) R { s with heap := h }) :
    wpAny (model prog w) A (call (.type "list") [.ref I]) Q E s := by
  have hSI : s.heap.objs.size ≠ I := Nat.ne_of_gt (Heap.lt_size ho)
  refine callType_codes (Q₁ := fun obj s₁ => obj = .ref s.heap.objs.size ∧ s₁ = { s with heap := s.heap.push { cls := .type "list", data := .seq #[] } }) F.called_list (F.typeCall_list_1 _) F.entry_list_init
    (code_list_new _ ⟨rfl, rfl⟩) fun obj s₁ h₁ => ?_
  obtain ⟨rfl, rfl⟩ := h₁
  have hS : (s.heap.push { cls := .type "list", data := .seq #[] }).get? s.heap.objs.size = some { cls := .type "list", data := .seq #[] } := Heap.get?_push_size _ rfl
  refine ⟨⟨_, hS, rfl⟩, F.args_list_init_2 _ _, ?_⟩
  have k0 : ∀ b o, s.heap.get? b = some o → (s.heap.push { cls := .type "list", data := .seq #[] }).get? b = some o := fun b o e => Heap.get?_push_of_some _ e
  have nS : ∀ b o, s.heap.get? b = some o → b ≠ s.heap.objs.size := fun b o e => Nat.ne_of_lt (Heap.lt_size e)
  generalize s.heap.push { cls := .type "list", data := .seq #[] } = h0 at hS k0
  show wpAny _ A.in1.in1 (do let old ← Builtin.List.listItems (.ref s.heap.objs.size); Builtin.List.listUpdate (.ref s.heap.objs.size) (fun _ => #[]); letGo old.toList.reverse; Builtin.List.listExtendWith (.ref s.heap.objs.size) (.ref I) .none) _ _ _
  refine wpAny_bind ?_
  unfold Builtin.List.listItems
  refine wpAny_bind (wpAny_seqItems hS rfl (wpAny_pure ?_))
  show wpAny _ A.in1.in1 (updateSeq s.heap.objs.size (fun _ => #[]) >>= fun _ => letGo (#[] : Array Value).toList.reverse >>= fun _ => Builtin.List.listExtendWith (.ref s.heap.objs.size) (.ref I) .none) _ _ _
  refine wpAny_bind (wpAny_updateSeq hS rfl ?_)
  have hS2 := Heap.get?_update_self (Obj.mapSeq (fun _ => (#[] : Array Value))) hS rfl
  have k2 : ∀ b o, s.heap.get? b = some o → (h0.update s.heap.objs.size (Obj.mapSeq (fun _ => (#[] : Array Value)))).get? b = some o :=
    fun b o e => (Heap.get?_update_other _ _ (Ne.symm (nS b o e))).trans (k0 b o e)
  refine wpAny_bind (wpAny_letGo ?_)
  generalize h0.update s.heap.objs.size (Obj.mapSeq (fun _ => (#[] : Array Value))) = h1 at hS2 k2
  have ty : ∀ h : Heap, (∀ b o, s.heap.get? b = some o → h.get? b = some o) → ({ s with heap := h } : Shared).TypeIs (.ref I) T := fun h k => ⟨o, k _ _ ho, hc⟩
  unfold Builtin.List.listExtendWith
  refine wpAny_bind (wpAny_typeOf (ty _ k2) ?_)
  have h1' : Builtin.List.listSameRef (.ref s.heap.objs.size) (.ref I) = false := by simp [Builtin.List.listSameRef, hSI]
  simp only [h1', t1, t2, Bool.or_false, Bool.false_eq_true, if_false]
  refine wpAny_bind (self _ h1 _ _ k2 ?_)
  refine wpAny_bind (wpAny_holding ?_)
  unfold Builtin.List.listLengthHint
  refine wpAny_bind (wpAny_specialOf (ty _ k2) nl ?_)
  show wpAny _ A.in1.in1 (specialOf (Value.ref I) (Str.ofString "__length_hint__") >>= _) _ _ _
  refine wpAny_bind (wpAny_specialOf (ty _ k2) nh ?_)
  refine wpAny_pure ?_
  show wpAny _ A.in1.in1 (rule "list.extend.makes-room" >>= fun _ => Builtin.List.listTouch (.ref s.heap.objs.size) >>= fun _ =>
    again (.builtin "list.extend.loop" ⟨[.ref s.heap.objs.size, .ref I, .none], []⟩)) _ _ _
  refine wpAny_bind (wpAny_rule ?_)
  refine wpAny_bind ?_
  show wpAny _ A.in1.in1 (updateSeq s.heap.objs.size (·.push .none) >>= fun _ => updateSeq s.heap.objs.size (·.pop)) _ _ _
  refine wpAny_bind (wpAny_updateSeq hS2 rfl ?_)
  have hS3 := Heap.get?_update_self (Obj.mapSeq (·.push Value.none)) hS2 rfl
  refine wpAny_updateSeq (hz := by seq_fits) hS3 rfl ?_
  have hS4 := Heap.get?_update_self (Obj.mapSeq (·.pop)) hS3 rfl
  refine wpAny_pure ⟨plainId_quiet F.plain_extend_loop _, loop _ _ _ (fun b o e => ?_) hS4 fun s' q => ⟨rfl, q⟩⟩
  exact (Heap.get?_update_other _ _ (Ne.symm (nS b o e))).trans ((Heap.get?_update_other _ _ (Ne.symm (nS b o e))).trans (k2 b o e))
end
theorem zip_no_len : typeLookup (.type "zip") "__len__" = pure none := by rw [typeLookup_type, builtinLookup_eq_fast]; kernel_rfl
theorem zip_no_hint : typeLookup (.type "zip") "__length_hint__" = pure none := by rw [typeLookup_type, builtinLookup_eq_fast]; kernel_rfl
/-- what the list at S holds as it grows: pair by pair -/
structure PJ (xs ys : List V) (J : Addr → Nat → Hp → List V → Prop) (H : Hp) (Q : VK) : Prop where
  start : ∀ S, H S = none → J S 0 (upd H S (.lst [])) []
  turn : ∀ S i H' vs x y T, J S i H' vs → xs[i]? = some x → ys[i]? = some y → H' T = none → H' S = some (.lst vs) → J S (i + 1) (upd (upd H' T (.tup [x, y])) S (.lst (vs ++ [.ref T]))) (vs ++ [.ref T])
  fin : ∀ S H' vs, J S (min xs.length ys.length) H' vs → H' S = some (.lst vs) → Q (.ref S) H'
def tLZ (K : PySem.W.Frag) (ta : TA) : TE := fun σ H Q => ta σ H fun vs H1 => ∃ (a b : Addr) (xs ys : List V), vs = [.ref a, .ref b] ∧ SqL K H1 a xs ∧ SqL K H1 b ys ∧ ∃ J, PJ xs ys J H1 Q
def ZSt (z TI TO i1 i2 a b S : Addr) (its its2 : Array Value) (i : Nat) (h : Heap) : Prop :=
  IsPair h TI (.ref i1) (.ref i2) ∧ h.IsListIter i1 a i ∧ h.IsListIter i2 b i ∧ h.IsList a its ∧ h.IsList b its2 ∧
    ((IsZip h z TI TO .none ∧ ∃ x y, IsPair h TO x y) ∨ ∃ T f oT, IsZipHeld h z TI TO T f ∧ h.get? T = some oT ∧ T ≠ z ∧ T ≠ i1 ∧ T ≠ i2 ∧ T ≠ S)
theorem ZSt.keep {z TI TO i1 i2 a b S : Addr} {its its2 : Array Value} {i : Nat} {h h' : Heap} (d : S ≠ z ∧ S ≠ TI ∧ S ≠ TO ∧ S ≠ i1 ∧ S ≠ i2 ∧ S ≠ a ∧ S ≠ b) (st : ZSt z TI TO i1 i2 a b S its its2 i h) (hk : ∀ c o, c ≠ S → h.get? c = some o → h'.get? c = some o) : ZSt z TI TO i1 i2 a b S its its2 i h' := by
  obtain ⟨dz, dTI, dTO, di1, di2, da, db⟩ := d
  obtain ⟨hTI, h1, h2, hl1, hl2, hz⟩ := st
  refine ⟨hk _ _ (Ne.symm dTI) hTI, h1.at fun o e => hk _ o (Ne.symm di1) e, h2.at fun o e => hk _ o (Ne.symm di2) e, hl1.at fun o e => hk _ o (Ne.symm da) e, hl2.at fun o e => hk _ o (Ne.symm db) e, ?_⟩
  rcases hz with ⟨hz, x, y, hTO⟩ | ⟨T, f, oT, hz, hT, r1, r2, r3, r4⟩
  · exact .inl ⟨hk _ _ (Ne.symm dz) hz, x, y, hk _ _ (Ne.symm dTO) hTO⟩
  · exact .inr ⟨T, f, oT, hk _ _ (Ne.symm dz) hz, hk _ _ r4 hT, r1, r2, r3, r4⟩
theorem ZSt.next {prog : Program} {w : World} {A : Around} {E : Value → Shared → Prop} {s : Shared} {z TI TO i1 i2 a b S : Addr} {its its2 : Array Value} {i : Nat} {u u2 : Value} {Q : Option Value → Shared → Prop} (D : ZipApart z TI TO i1 i2 a b) (hS : S < s.heap.objs.size)
    (st : ZSt z TI TO i1 i2 a b S its its2 i s.heap) (ex : its[i]? = some u) (ey : its2[i]? = some u2)
    (hQ : ∀ h', ZSt z TI TO i1 i2 a b S its its2 (i + 1) h' → h'.get? s.heap.objs.size = some { cls := .type "tuple", data := .seq #[u, u2] } → (∀ c o, c ∉ [z, TO, i1, i2] → s.heap.get? c = some o → h'.get? c = some o) → Q (some (.ref s.heap.objs.size)) { s with heap := h' }) :
    wpAny (model prog w) A (pyNext (.ref z)) Q E s := by
  obtain ⟨hTI, h1, h2, hl1, hl2, hz⟩ := st
  have lt : ∀ {c o}, s.heap.get? c = some o → s.heap.objs.size ≠ c := fun e => Nat.ne_of_gt (Heap.lt_size e)
  have n1 : s.heap.objs.size ≠ i1 := let ⟨_, e, _⟩ := h1; lt e
  have n2 : s.heap.objs.size ≠ i2 := let ⟨_, e, _⟩ := h2; lt e
  rcases hz with ⟨hz, x, y, hTO⟩ | ⟨T, f, oT, hz, hT, r1, r2, r3, r4⟩
  · refine wpAny_pyNext_zip_item D hz hTI hTO h1 h2 hl1 hl2 ex ey fun h' a1 a2 a3 a4 a5 a6 hk => ?_
    exact hQ h' ⟨hk _ _ D.TIz D.TITO D.TIi1 D.TIi2 hTI, a3, a4, hl1.at fun o e => hk _ o D.l1z D.l1TO D.l1i1 D.l1i2 e, hl2.at fun o e => hk _ o D.l2z D.l2TO D.l2i1 D.l2i2 e,
        .inr ⟨s.heap.objs.size, false, _, a1, a5, lt hz, n1, n2, Nat.ne_of_gt hS⟩⟩ a5
      fun c o hc e => hk c o (fun x => hc (by simp [x])) (fun x => hc (by simp [x])) (fun x => hc (by simp [x])) (fun x => hc (by simp [x])) e
  · refine wpAny_pyNext_zip_item_held D hz hT hTI h1 h2 hl1 hl2 ex ey fun h' a1 a3 a4 a5 a6 hk => ?_
    exact hQ h' ⟨hk _ _ D.TIz D.TIi1 D.TIi2 hTI, a3, a4, hl1.at fun o e => hk _ o D.l1z D.l1i1 D.l1i2 e, hl2.at fun o e => hk _ o D.l2z D.l2i1 D.l2i2 e,
        .inr ⟨T, true, oT, a1, hk _ _ r1 r2 r3 hT, r1, r2, r3, r4⟩⟩ a5
      fun c o hc e => hk c o (fun x => hc (by simp [x])) (fun x => hc (by simp [x])) (fun x => hc (by simp [x])) e
theorem ZSt.done {prog : Program} {w : World} {A : Around} {E : Value → Shared → Prop} {s : Shared} {z TI TO i1 i2 a b S : Addr} {its its2 : Array Value} {i : Nat} {Q : Option Value → Shared → Prop} (hh : A.handled = none) (D : ZipApart z TI TO i1 i2 a b)
    (st : ZSt z TI TO i1 i2 a b S its its2 i s.heap) (hend : its[i]? = none ∨ its2[i]? = none)
    (hQ : ∀ h', (∀ c o, c ∉ [z, TO, i1, i2] → s.heap.get? c = some o → h'.get? c = some o) → Q none { s with heap := h' }) :
    wpAny (model prog w) A (pyNext (.ref z)) Q E s := by
  obtain ⟨hTI, h1, h2, hl1, hl2, hz⟩ := st
  rcases hz with ⟨hz, x, y, hTO⟩ | ⟨T, f, oT, hz, hT, r1, r2, r3, r4⟩
  · exact wpAny_pyNext_zip_end hh D hz hTI hTO h1 h2 hl1 hl2 hend fun h' hk => hQ h' fun c o hc e => hk c o (fun x => hc (by simp [x])) (fun x => hc (by simp [x])) (fun x => hc (by simp [x])) (fun x => hc (by simp [x])) e
  · exact wpAny_pyNext_zip_end_held hh D hz hT hTI h1 h2 hl1 hl2 hend fun h' hk => hQ h' fun c o hc e => hk c o (fun x => hc (by simp [x])) (fun x => hc (by simp [x])) (fun x => hc (by simp [x])) e
/-- list(zip(a, b)) of two lists -/
theorem pe_listZip {X : Cx} {e e2 : Expr} {ta : TA} {p pos p2 pos2 : Pos} (hc : X.calm = true) (hgl : Gl X "list") (hml : X.mg "list" = none) (hg : Gl X "zip") (hm : X.mg "zip" = none) (ha : PA X [e, e2] ta)
    (na : starEach [Expr.Call (.Name "zip" p2) [e, e2] [] pos2] X.env = (false, eval (Expr.Call (.Name "zip" p2) [e, e2] [] pos2) X.env) :: starEach [] X.env := by rfl)
    (hs : starEach [e, e2] X.env = (false, eval e X.env) :: starEach [e2] X.env := by rfl) (hpl : (backTo pos2 (starEach [e2] X.env)).any (·.1) = false := by rfl) :
    PE X (.Call (.Name "list" p) [.Call (.Name "zip" p2) [e, e2] [] pos2] [] pos) (tLZ X.K ta) := by
  refine ⟨fun pins s σ H Q I h => ?_⟩
  refine Call_ (ld_blt I hgl hml boot_list (PyProof.Rows.callWith_type1 (args_cons (Call_ (ld_blt I hg hm PyProof.Rows.boot_zip (PyProof.Rows.callWith_type1 (L2.thn (ha.run pos2 pins s σ H _ I h) fun us s1 ⟨vs, H1, I1, r1, q1⟩ => ?_) hs hpl))) na) na))
  obtain ⟨a, b, xs, ys, ex, hqx, hqy, JJ, pj⟩ := q1
  subst ex
  obtain ⟨v1, v2, rfl, ra, rb⟩ : ∃ v1 v2, us = [v1, v2] ∧ RelV (.ref a) v1 ∧ RelV (.ref b) v2 := by
    cases r1 with
    | cons r rr => cases rr with
      | cons r' rr => cases rr; exact ⟨_, _, rfl, r, r'⟩
  cases ra
  cases rb
  obtain ⟨its, rv, p1, hz1⟩ := I1.list hqx
  obtain ⟨its2, rv2, p2', hz2⟩ := I1.list hqy
  have la : a < s1.heap.objs.size := p1.lt
  have lb : b < s1.heap.objs.size := p2'.lt
  refine call_zip_2 p1.isList p2'.isList fun h' hz hTI hTO h1 h2 hsz hk => args_nil ?_
  have D := PySem.W.ktu_apart s1.heap.objs.size a b la lb
  refine call_list_it (T := "zip") hz rfl (by decide) (by decide) zip_no_len zip_no_hint (fun A h Q E k q => wpAny_pyIter_zip (k _ _ hz) q) fun h c R k hS fin => ?_
  have hSs : h'.objs.size = s1.heap.objs.size + 5 := hsz
  have kk : ∀ b o, s1.heap.get? b = some o → h.get? b = some o := fun b o e => k b o (hk b o e)
  generalize hSd : h'.objs.size = S at *
  have la' : @LT.lt Nat _ a s1.heap.objs.size := la
  have lb' : @LT.lt Nat _ b s1.heap.objs.size := lb
  have dS : S ≠ s1.heap.objs.size + 4 ∧ S ≠ s1.heap.objs.size + 2 ∧ S ≠ s1.heap.objs.size + 3 ∧ S ≠ s1.heap.objs.size ∧ S ≠ s1.heap.objs.size + 1 ∧ S ≠ a ∧ S ≠ b := by
    have hSs' : @Eq Nat S (s1.heap.objs.size + 5) := hSs
    refine ⟨?_, ?_, ?_, ?_, ?_, ?_, ?_⟩ <;> (refine PySem.W.neN ?_; omega)
  have wl : ∀ b' ∈ [s1.heap.objs.size + 4, s1.heap.objs.size + 3, s1.heap.objs.size, s1.heap.objs.size + 1], b' < S := fun b' hb => by
    have hSs' : @Eq Nat S (s1.heap.objs.size + 5) := hSs
    have e' : @Eq Nat b' (s1.heap.objs.size + 4) ∨ @Eq Nat b' (s1.heap.objs.size + 3) ∨ @Eq Nat b' s1.heap.objs.size ∨ @Eq Nat b' (s1.heap.objs.size + 1) := by simpa using hb
    show @LT.lt Nat _ b' S
    omega
  have hle : s1.heap.objs.size ≤ S := by rw [hSs]; exact Nat.le_add_right _ _
  have hSn : H1 S = none := I1.hok.fresh hle
  have I2 : Inv X pins σ (upd H1 S (.lst [])) { s1 with heap := h } := I1.laid (t' := s1.toks) kk hle (show ObjOk X.prog X.w _ h _ (.lst []) from ⟨Nat.zero_le _, [], c, .nil, hS⟩)
  have fp : ∀ b' ∈ [s1.heap.objs.size + 4, s1.heap.objs.size + 3, s1.heap.objs.size, s1.heap.objs.size + 1], FpOk X pins (upd H1 S (.lst [])) b' := fun b' hb => by
    have e' : b' = s1.heap.objs.size + 4 ∨ b' = s1.heap.objs.size + 3 ∨ b' = s1.heap.objs.size ∨ b' = s1.heap.objs.size + 1 := by simpa using hb
    have hl : s1.heap.objs.size ≤ b' := by
      rcases e' with z | z | z | z
      · rw [z]; exact Nat.le_add_right _ _
      · rw [z]; exact Nat.le_add_right _ _
      · rw [z]; exact Nat.le_refl _
      · rw [z]; exact Nat.le_add_right _ _
    have hne : b' ≠ S := by
      rcases e' with z | z | z | z
      · rw [z]; exact Ne.symm dS.1
      · rw [z]; exact Ne.symm dS.2.2.1
      · rw [z]; exact Ne.symm dS.2.2.2.1
      · rw [z]; exact Ne.symm dS.2.2.2.2.1
    exact I1.fpOk hl ((upd_ne hne).trans (I1.hok.fresh hl))
  have z0 : ZSt (s1.heap.objs.size + 4) (s1.heap.objs.size + 2) (s1.heap.objs.size + 3) s1.heap.objs.size (s1.heap.objs.size + 1) a b S its.toArray its2.toArray 0 h :=
    ⟨k _ _ hTI, h1.at fun o e => k _ o e, h2.at fun o e => k _ o e, p1.isList.at fun o e => kk _ o e, p2'.isList.at fun o e => kk _ o e, .inl ⟨k _ _ hz, _, _, k _ _ hTO⟩⟩
  clear hz hTI hTO h1 h2 hsz hk
  generalize s1.heap.objs.size + 4 = z at *
  generalize s1.heap.objs.size + 2 = TI at *
  generalize s1.heap.objs.size + 3 = TO at *
  generalize s1.heap.objs.size + 1 = i2 at *
  generalize s1.heap.objs.size = i1 at *
  have lx := rv.length
  have ly := rv2.length
  refine ext_loop (n := min xs.length ys.length) (Nat.le_trans (Nat.min_le_left ..) hz1) (fun i s acc => ∃ H' vs c, Inv X pins σ H' s ∧ ZSt z TI TO i1 i2 a b S its.toArray its2.toArray i s.heap ∧ s.heap.get? S = some (lstO acc c) ∧ Vals vs acc.toList ∧ JJ S i H' vs ∧ H' S = some (.lst vs) ∧ ∀ b' ∈ [z, TO, i1, i2], FpOk X pins H' b') ?_ ?_ _ 0 _ #[] rfl (Nat.zero_le _) ⟨_, [], c, I2, z0, hS, .nil, pj.start S hSn, upd_same, fp⟩ rfl
  · rintro i s acc hi ⟨H', vs, c', I', st, hS', hv, hj, hHS, fp'⟩ hsz
    have hix : i < xs.length := Nat.lt_of_lt_of_le hi (Nat.min_le_left ..)
    have hiy : i < ys.length := Nat.lt_of_lt_of_le hi (Nat.min_le_right ..)
    have gx := List.getElem?_eq_getElem hix
    have gy := List.getElem?_eq_getElem hiy
    obtain ⟨u, hu, ru⟩ := rv.get gx
    obtain ⟨u2, hu2, ru2⟩ := rv2.get gy
    have hSl : S < s.heap.objs.size := Heap.lt_size hS'
    refine st.next D hSl (u := u) (u2 := u2) (by simpa using hu) (by simpa using hu2) fun h2 st2 hT hk2 => ?_
    have hSw : S ∉ [z, TO, i1, i2] := fun hm => by
      have e' : S = z ∨ S = TO ∨ S = i1 ∨ S = i2 := by simpa using hm
      rcases e' with q | q | q | q
      · exact dS.1 q
      · exact dS.2.2.1 q
      · exact dS.2.2.2.1 q
      · exact dS.2.2.2.2.1 q
    have hS2 := hk2 S _ hSw hS'
    refine ⟨_, c', rfl, hS2, fun h3 c3 hk3 hS3 => ?_⟩
    have hTn : H' s.heap.objs.size = none := I'.hok.fresh (Nat.le_refl _)
    have new : ObjOk X.prog X.w (upd H' s.heap.objs.size (.tup [xs[i], ys[i]])) h2 s.heap.objs.size (.tup [xs[i], ys[i]]) :=
      ⟨by show 2 ≤ sizeLine; decide, [u, u2], .cons ru (.cons ru2 .nil), ⟨_, hT, rfl, _, rfl⟩⟩
    have I3 : Inv X pins σ (upd H' s.heap.objs.size (.tup [xs[i], ys[i]])) { s with heap := h2 } := I'.turnedNew (t' := s.toks) hk2 fp' (Nat.le_refl _) new
    have hST : S ≠ s.heap.objs.size := Nat.ne_of_lt hSl
    have hHS3 : (upd H' s.heap.objs.size (.tup [xs[i], ys[i]])) S = some (.lst vs) := (upd_ne hST).trans hHS
    have vals : Vals (vs ++ [.ref s.heap.objs.size]) (acc.push (.ref s.heap.objs.size)).toList := by
      rw [Array.toList_push]
      exact hv.append (.cons rfl .nil)
    have I4 : Inv X pins σ (upd (upd H' s.heap.objs.size (.tup [xs[i], ys[i]])) S (.lst (vs ++ [.ref s.heap.objs.size]))) { s with heap := h3 } :=
      I3.write (t' := s.toks) (by rw [hHS3]; trivial) (.inl rfl) hk3 ⟨_, hS3⟩ (show ObjOk X.prog X.w _ h3 _ (.lst (vs ++ [.ref s.heap.objs.size])) from ⟨by
        have := vals.length
        rw [this, Array.length_toList, Array.size_push, hsz]
        omega, (acc.push (.ref s.heap.objs.size)).toList, c3, vals, by rw [Array.toArray_toList]; exact hS3⟩)
    refine ⟨_, _, c3, I4, st2.keep dS hk3, hS3, vals, pj.turn S i H' vs _ _ _ hj gx gy hTn hHS, upd_same, fun b' hb => ?_⟩
    have f := fp' b' hb
    have e' : b' = z ∨ b' = TO ∨ b' = i1 ∨ b' = i2 := by simpa using hb
    have hbS : b' ≠ S := fun q => hSw (q ▸ hb)
    refine ⟨(upd_ne hbS).trans ((upd_ne fun q => ?_).trans f.1), f.2⟩
    have bl : b' < s.heap.objs.size := Nat.lt_trans (wl b' hb) hSl
    exact absurd bl (by rw [q]; exact Nat.lt_irrefl _)
  · rintro s acc ⟨H', vs, c', I', st, hS', hv, hj, hHS, fp'⟩ hsz
    have hend : its.toArray[min xs.length ys.length]? = none ∨ its2.toArray[min xs.length ys.length]? = none := by
      rcases Nat.le_total xs.length ys.length with h | h
      · exact .inl (Array.getElem?_eq_none (by rw [Nat.min_eq_left h]; simp; omega))
      · exact .inr (Array.getElem?_eq_none (by rw [Nat.min_eq_right h]; simp; omega))
    refine st.done (I'.ok.hd hc) D hend fun h2 hk2 => ⟨rfl, fin _ ⟨.ref S, H', I'.turnedL (t' := s.toks) hk2 fp', rfl, pj.fin S H' vs hj hHS⟩⟩

section
variable {X : Cx} {P : XP} {F : Hp} {M : Cells} {δ : Slots} {σ : L2.St} {H : Hp} {a b : Expr} {pos p pos2 p2 : Pos}
theorem zip_get {xs ys : List D} {i : Nat} {x y : D} (hx : xs[i]? = some x) (hy : ys[i]? = some y) : (zipD xs ys).take (i + 1) = (zipD xs ys).take i ++ [.tup [x, y]] := by
  rw [List.take_succ]
  unfold zipD
  rw [List.getElem?_map, List.getElem?_zip_eq_some.mpr (show xs[i]? = some (x, y).1 ∧ ys[i]? = some (x, y).2 from ⟨hx, hy⟩)]
  rfl
/-- list(zip(a, b)), a new cell of pairs -/
theorem we_listZip {Q : D → Cells → Prop} (hc : X.calm = true) (hgl : Gl X "list") (hml : X.mg "list" = none) (hg : Gl X "zip") (hm : X.mg "zip" = none)
    (h : WA X P [a, b] δ M fun ds M1 => ∃ d e xs ys, ds = [d, e] ∧ LV M1 d xs ∧ LV M1 e ys ∧ ∀ q, Q (.cel q) ((q, .lst (zipD xs ys)) :: M1))
    (na : starEach [Expr.Call (.Name "zip" p2) [a, b] [] pos2] X.env = (false, eval (Expr.Call (.Name "zip" p2) [a, b] [] pos2) X.env) :: starEach [] X.env := by rfl)
    (hs : starEach [a, b] X.env = (false, eval a X.env) :: starEach [b] X.env := by rfl) (hpl : (backTo pos2 (starEach [b] X.env)).any (·.1) = false := by rfl) :
    WE X P (.Call (.Name "list" p) [.Call (.Name "zip" p2) [a, b] [] pos2] [] pos) δ M Q :=
  we_of (pe_listZip hc hgl hml hg hm pa_sem na hs hpl) fun σ H F G => h.go G fun vs H1 F1 M1 ds s1 G1 r1 q1 => by
    obtain ⟨d, e, xs, ys, rfl, l1, l2, q⟩ := q1
    obtain ⟨v1, v2, rfl, a1, a2⟩ := r1.two
    obtain ⟨a, vs, rfl, e1, f1⟩ := G1.st.readL a1 l1
    obtain ⟨b, ws, rfl, e2, f2⟩ := G1.st.readL a2 l2
    refine ⟨a, b, vs, ws, rfl, e1, e2, fun S i H' us => ∃ F', Same F1 F' ∧ Stt X.K F' ((S, .lst ((zipD xs ys).take i)) :: M1) δ σ H', ⟨fun S hS => ?_, fun S i H' us x y T hj hx hy hT hHS => ?_, fun S H' us hj hHS => ?_⟩⟩
    · exact ⟨F1, Same.refl _, G1.st.newL hS .nil⟩
    · obtain ⟨F', s', S'⟩ := hj
      obtain ⟨us', u1, u2, u3⟩ := S'.cellAt (List.Mem.head _)
      rw [hHS] at u1
      cases u1
      obtain ⟨dx, gx, rx⟩ := f1.get' hx
      obtain ⟨dy, gy, ry⟩ := f2.get' hy
      obtain ⟨S2, s2⟩ := S'.froz (o := .tup [x, y]) hT
      have S3 := S2.setCell (k := 0) (c' := .lst ((zipD xs ys).take (i + 1))) rfl ⟨us ++ [.ref T], upd_same, by
        rw [zip_get gx gy]
        exact (u3.up s2).append (.cons (.tup (.of upd_same) (.cons (rx.up (s'.trans s2)) (.cons (ry.up (s'.trans s2)) .nil))) .nil)⟩
      exact ⟨_, s'.trans s2, S3⟩
    · obtain ⟨F', s', S'⟩ := hj
      have e : (zipD xs ys).take (min vs.length ws.length) = zipD xs ys := List.take_of_length_le (by
        unfold zipD
        rw [List.length_map, List.length_zip, f1.length, f2.length]
        exact Nat.le_refl _)
      rw [e] at S'
      exact ret S' (s1.trans s') (.cel S) (q S)
end
end PW
/-! PWH -/
namespace PW
open PySem PySem.Spec L2 PyProof.Rows
section
variable {X : Cx} {P : XP} {F : Hp} {M : Cells} {δ : Slots} {σ : L2.St} {H : Hp} {a : Expr} {pos p pos2 p2 : Pos}
end
end PW
/-! PWI -/
namespace PW
open PySem PySem.Spec L2 PyProof.Rows
section
variable {X : Cx} {P : XP} {F : Hp} {M : Cells} {δ : Slots} {σ : L2.St} {H : Hp} {a : Expr} {pos p p2 q : Pos}
/-- len(set(xs)), the ints unlike -/
theorem we_lenSet {Q : D → Cells → Prop} (hc : X.calm = true) (hg : Gl X "len") (hm : X.mg "len" = none) (hg2 : Gl X "set") (hm2 : X.mg "set" = none)
    (h : WE X P a δ M fun d M1 => ∃ ns : List Int, LV M1 d (ns.map D.int) ∧ ns.length < 64 ∧ ns.Nodup ∧ Q (.int ns.length) M1)
    (he : starEach [a] X.env = (false, eval a X.env) :: starEach [] X.env := by rfl) :
    WE X P (.Call (.Name "len" p) [.Call (.Name "set" p2) [a] [] q] [] pos) δ M Q :=
  we_of (pe_lenSetI hc hg hm hg2 hm2 (pe_sem (e := a)) he) fun σ H F G =>
    h.go G fun v H1 F1 M1 d s1 G1 r1 q1 => by
      obtain ⟨ns, hl, hn, hd, q1⟩ := q1
      obtain ⟨l, vs, rfl, e1, e2⟩ := G1.st.readL r1 hl
      rw [e2.ints_inv] at e1
      exact ⟨l, ns, rfl, e1, hn, hd, ret G1.st s1 (.int _) q1⟩
end
end PW
/-! PWJ -/
namespace PW
open PySem L2 PyProof.Rows
section
variable {X : Cx} {P : XP} {F : Hp} {M : Cells} {δ : Slots} {σ : L2.St} {H : Hp} {e a b c o : Expr} {es : List Expr} {pos pos' p p1 q apos cpos : Pos}
theorem Reps.eraseIdx {K : PySem.W.Frag} : ∀ {vs : List V} {ds : List D}, Reps K F vs ds → ∀ k : Nat, Reps K F (vs.eraseIdx k) (ds.eraseIdx k)
  | [], _, r, k => by cases r; exact .nil
  | _ :: _, _, r, 0 => by cases r with | cons _ r2 => exact r2
  | _ :: _, _, r, k + 1 => by cases r with | cons r1 r2 => exact .cons r1 (Reps.eraseIdx r2 k)
/-- xs.pop(i) -/
theorem we_popAt {Q : D → Cells → Prop} (h : WE X P o δ M fun x M1 => ∃ q, x = .cel q ∧ (∃ (k : Nat) (ds : List D), M1[k]? = some (q, .lst ds)) ∧ WA X P [e] δ M1 fun ys M2 => ∃ (j : Nat) (k : Nat) (ds : List D) (y : D), ys = [.int j] ∧ M2[k]? = some (q, .lst ds) ∧ ds[j]? = some y ∧ j < 2 ^ 62 ∧ Q y (M2.set k (q, .lst (ds.eraseIdx j))))
    (hbase : attributeBase o "pop" X.env (eval o X.env) = eval o X.env := by rfl)
    (hfew : ((backTo cpos (starEach [e] X.env)).all (fun x => !x.1) && (backToKw cpos (keywordEach [] X.env)).all (fun x => x.1.isSome)
      && decide (([e] : List Expr).length + ([] : List Keyword).length + (if ([] : List Keyword).isEmpty then 0 else 1) < 30)) = true := by rfl)
    (hline : (apos.endLine == cpos.line) = true := by rfl) (hs : starEach [e] X.env = (false, eval e X.env) :: starEach [] X.env := by rfl) (hplain : (backTo cpos (starEach [] X.env)).any (·.1) = false := by rfl) :
    WE X P (.Call (.Attribute o "pop" apos) [e] [] cpos) δ M Q :=
  we_of (pe_bm PySem.F.plainAttrs_list PySem.F.slot_list_pop PySem.F.type_list_pop mt_popAt pe_sem pa_sem hbase hfew hline hs hplain) fun σ H F G => h.go G fun v H1 F1 M1 x s1 G1 r1 q1 => by
    obtain ⟨q, rfl, ⟨k0, ds0, hk0⟩, q1⟩ := q1
    cases r1
    obtain ⟨vs0, e0, _⟩ := G1.st.cellAt (List.mem_of_getElem? hk0)
    refine ⟨.inl ⟨rfl, vs0, .of e0⟩, q1.go G1 fun ws H2 F2 M2 ys s2 G2 r2 q2 => ?_⟩
    obtain ⟨j, k, ds, y, rfl, hk, hy, hj, hq⟩ := q2
    obtain ⟨w, rfl, rw'⟩ := r2.one
    cases rw'
    obtain ⟨vs, e1, e2, e3⟩ := G2.st.cellAt (List.mem_of_getElem? hk)
    obtain ⟨u, hu, ru⟩ := e3.get hy
    have hjl : j < vs.length := (List.getElem?_eq_some_iff.mp hu).1
    refine ⟨q, vs, (j : Int), j, u, rfl, rfl, e1, by omega, by omega, ?_, hu, ?_⟩
    · exact seqIndex_of (by omega) (by omega)
    exact ret (G2.st.setCell (c' := .lst (ds.eraseIdx j)) hk ⟨vs.eraseIdx j, upd_same, e3.eraseIdx j⟩) (s1.trans s2) ru hq
theorem we_popC {Q : D → Cells → Prop} (h : WE X P o δ M fun x M1 => ∃ q, x = .cel q ∧ CL M1 q (fun _ _ => True) ∧ WA X P [e] δ M1 fun ys M2 => ∃ z : Int, ys = [.int z] ∧ CL M2 q fun ds f => ∃ (j : Nat) (y : D), z = (j : Int) ∧ ds[j]? = some y ∧ j < 2 ^ 62 ∧ Q y (f (ds.eraseIdx j)))
    (hbase : attributeBase o "pop" X.env (eval o X.env) = eval o X.env := by rfl)
    (hfew : ((backTo cpos (starEach [e] X.env)).all (fun x => !x.1) && (backToKw cpos (keywordEach [] X.env)).all (fun x => x.1.isSome)
      && decide (([e] : List Expr).length + ([] : List Keyword).length + (if ([] : List Keyword).isEmpty then 0 else 1) < 30)) = true := by rfl)
    (hline : (apos.endLine == cpos.line) = true := by rfl) (hs : starEach [e] X.env = (false, eval e X.env) :: starEach [] X.env := by rfl) (hplain : (backTo cpos (starEach [] X.env)).any (·.1) = false := by rfl) :
    WE X P (.Call (.Attribute o "pop" apos) [e] [] cpos) δ M Q :=
  we_popAt (h.imp fun x M1 ⟨q, e1, c1, h2⟩ => ⟨q, e1, (let ⟨k, ds, h, _⟩ := c1; ⟨k, ds, h⟩), fun σ H F G => h2.go G fun vs H2 F2 M2 ys s2 G2 r2 ⟨z, e2, k, ds, hk, j, y, e3, hy, hj, q⟩ => ⟨F2, M2, ys, s2, G2.st, r2, j, k, ds, y, by rw [e2, e3], hk, hy, hj, q⟩⟩) hbase hfew hline hs hplain
end
end PW
/-! PWK -/
namespace PW
open PySem PySem.Spec L2 PyProof.Rows
section
variable {P : Program} {w : World} {A : Around} {E : Value → Shared → Prop} {s : Shared}
end
section
variable {X : Cx} {P : XP} {F : Hp} {M : Cells} {δ : Slots} {σ : L2.St} {H : Hp} {a : Expr} {pos p p2 q : Pos}
end
end PW
/-! PWT2 -/
namespace PW
open PySem PySem.Spec L2 PyProof.Rows
section
variable {X : Cx} {xa xb n : Str} {ca cb : Value} {i : Nat} {body sa sb : List Stmt} {a₀ b₀ : Stmt} {na nb pa pb pos : Pos} {tb : WX → TS} {ta tc : Addr → Value → Option Addr → TS}
end
end PW
namespace PW
open PySem L2 PyProof.Rows
section
variable {X : Cx} {P : XP} {F : Hp} {M : Cells} {δ : Slots} {σ : L2.St} {H : Hp} {E : En}
end
end PW
namespace PW
open PySem PySem.Spec L2 PyProof.Rows
section
variable {X : Cx} {P : XP} {F : Hp} {M : Cells} {δ : Slots} {σ : L2.St} {H : Hp} {e : Expr} {k : Nat} {p1 p2 pos : Pos}
end
end PW
namespace PW
open PySem L2 PyProof.Rows
section
variable {X : Cx} {P : XP} {F : Hp} {M : Cells} {δ : Slots} {σ : L2.St} {H : Hp} {a : Expr} {p pos : Pos}
theorem we_maxL {Q : D → Cells → Prop} (hc : X.calm = true) (hg : Gl X "max") (hm : X.mg "max" = none)
    (h : WE X P a δ M fun d M1 => ∃ ns : List Int, LV M1 d (ns.map D.int) ∧ 0 < ns.length ∧ ∀ m, m ∈ ns → (∀ y ∈ ns, y ≤ m) → Q (.int m) M1)
    (he : starEach [a] X.env = (false, eval a X.env) :: starEach [] X.env := by rfl) (hpl : (backTo pos (starEach [] X.env)).any (·.1) = false := by rfl) :
    WE X P (.Call (.Name "max" p) [a] [] pos) δ M Q :=
  we_of (pe_callB (cr_max hc) hg hm (by decide +kernel) (pa_cons pe_sem pa_nil he) (by decide) (by decide) he hpl) fun σ H F G =>
    h.go G fun v H1 F1 M1 d s1 G1 r1 q1 => by
      obtain ⟨ns, hl, hz, q1⟩ := q1
      obtain ⟨l, vs, rfl, e1, e2⟩ := G1.st.readL r1 hl
      rw [e2.ints_inv] at e1
      exact ⟨l, ns, rfl, e1, hz, fun m h1 h2 => ret G1.st s1 (.int m) (q1 m h1 h2)⟩
end
end PW
/-! PWN -/
namespace PW
open PySem L2 PyProof.Rows PySem.W
section
variable {X : Cx} {P : XP} {M : Cells} {δ : Slots} {a b : Expr} {pos : Pos}
end
end PW
/-! MStr -/
namespace PW
end PW
/-! MFilB -/
namespace PW
abbrev Fits (xs : List (Int × Int)) : Prop := ∀ x ∈ xs, ∀ y ∈ xs, (x.1 - y.1) ∣ (x.2 - y.2)
def difP (xs : List (Int × Int)) (p : Int) : List Int := xs.map fun x => p - x.1
theorem difP_ne {xs : List (Int × Int)} {p : Int} (h : ∀ x ∈ xs, x.1 ≠ p) : ∀ f ∈ difP xs p, f ≠ 0 := fun f hf => by
  obtain ⟨x, hx, rfl⟩ := List.mem_map.mp hf
  have := h x hx
  omega
/-- the least value at p -/
noncomputable def leastF (xs : List (Int × Int)) (p : Int) : Int := Classical.epsilon (fun X : Int => ∀ x ∈ xs, (p - x.1) ∣ (X - x.2)) % lcmF (difP xs p)
theorem cls_iff {xs : List (Int × Int)} {p X : Int} (hX : ∀ x ∈ xs, (p - x.1) ∣ (X - x.2)) (v : Int) : (∀ x ∈ xs, (p - x.1) ∣ (v - x.2)) ↔ lcmF (difP xs p) ∣ v - X := by
  rw [lcmF_dvd]
  constructor
  · intro h f hf
    obtain ⟨x, hx, rfl⟩ := List.mem_map.mp hf
    have := Int.dvd_sub (h x hx) (hX x hx)
    rwa [show v - x.2 - (X - x.2) = v - X by omega] at this
  · intro h x hx
    have := Int.dvd_add (h _ (List.mem_map.mpr ⟨x, hx, rfl⟩)) (hX x hx)
    rwa [show v - X + (X - x.2) = v - x.2 by omega] at this
theorem least_fit {xs : List (Int × Int)} (hf : Fits xs) (p : Int) : ∀ x ∈ xs, (p - x.1) ∣ (leastF xs p - x.2) := by
  have h := Classical.epsilon_spec (fit_ex hf p)
  refine (cls_iff h _).mpr ?_
  unfold leastF
  generalize Classical.epsilon (fun X : Int => ∀ x ∈ xs, (p - x.1) ∣ (X - x.2)) = X
  have e := Int.emod_add_mul_ediv X (lcmF (difP xs p))
  exact ⟨-(X / lcmF (difP xs p)), by rw [Int.mul_neg]; omega⟩
theorem least_rng {xs : List (Int × Int)} {p : Int} (h : ∀ x ∈ xs, x.1 ≠ p) : 0 ≤ leastF xs p ∧ leastF xs p < lcmF (difP xs p) := by
  have := lcmF_pos (difP_ne h)
  exact ⟨Int.emod_nonneg _ (by omega), Int.emod_lt_of_pos _ this⟩
theorem fits_snoc {xs : List (Int × Int)} {p v : Int} (h : Fits xs) (hv : ∀ x ∈ xs, (p - x.1) ∣ (v - x.2)) : Fits (xs ++ [(p, v)]) := fun x hx y hy => by
  rcases List.mem_append.mp hx with hx | hx <;> rcases List.mem_append.mp hy with hy | hy
  · exact h x hx y hy
  · rw [List.mem_singleton.mp hy]
    have := hv x hx
    have := Int.dvd_neg.mpr (Int.neg_dvd.mpr this)
    rwa [show -(v - x.2) = x.2 - v by omega, show -(p - x.1) = x.1 - p by omega] at this
  · rw [List.mem_singleton.mp hx]; exact hv y hy
  · rw [List.mem_singleton.mp hx, List.mem_singleton.mp hy]
    show (p - p) ∣ (v - v)
    rw [Int.sub_self, Int.sub_self]; exact Int.dvd_refl _
def othF (xs : List (Int × Int)) (ps : List Int) (i : Nat) : List Int := xs.map Prod.fst ++ ps.take i
def stepF (xs : List (Int × Int)) (ps : List Int) (i : Nat) : Int := lcmF ((othF xs ps i).map fun o => ps.getD i 0 - o)
def stepsF (xs : List (Int × Int)) (ps : List Int) : List Int := (List.range ps.length).map (stepF xs ps)
/-- how many fillings there are -/
def cntF (ss : List Int) (size : Int) : Int := ss.foldl (fun a s => a * (size / s)) 1
theorem cntF_snoc (ss : List Int) (s size : Int) : cntF (ss ++ [s]) size = cntF ss size * (size / s) := by unfold cntF; rw [List.foldl_append]; rfl
theorem cntF_fold (ss : List Int) (size : Int) : ∀ a : Int, ss.foldl (fun a s => a * (size / s)) a = a * cntF ss size := by
  induction ss with
  | nil => intro a; show a = a * 1; omega
  | cons s ss ih =>
    intro a
    have e : cntF (s :: ss) size = 1 * (size / s) * cntF ss size := ih (1 * (size / s))
    rw [e]
    show ss.foldl (fun a s => a * (size / s)) (a * (size / s)) = _
    rw [ih, Int.one_mul, Int.mul_assoc]
theorem cntF_cons (s : Int) (ss : List Int) (size : Int) : cntF (s :: ss) size = size / s * cntF ss size := by
  show ss.foldl (fun a s => a * (size / s)) (1 * (size / s)) = _
  rw [cntF_fold, Int.one_mul]
theorem cntF_pos {ss : List Int} {size : Int} (h : ∀ s ∈ ss, 0 < s ∧ s ∣ size) (hs : 0 < size) : 0 < cntF ss size := by
  induction ss with
  | nil => exact Int.one_pos
  | cons s ss ih =>
    rw [cntF_cons]
    have a := h s (List.mem_cons_self ..)
    exact Int.mul_pos (Int.ediv_pos_of_pos_of_dvd hs (by omega) a.2) (ih fun t ht => h t (List.mem_cons_of_mem _ ht))
/-- new places beside a book -/
structure Opn (xs : List (Int × Int)) (ps : List Int) (size : Int) : Prop where
  fit : Fits xs
  nd : (ps ++ xs.map Prod.fst).Nodup
  pos : 0 < size
  dv : ∀ i, i < ps.length → stepF xs ps i ∣ size
section
variable {xs : List (Int × Int)} {ps : List Int} {size : Int}
theorem Opn.ne (O : Opn xs ps size) {i : Nat} (hi : i < ps.length) : ∀ o ∈ othF xs ps i, o ≠ ps.getD i 0 := fun o ho e => by
  have nd := List.nodup_append.mp O.nd
  have gi : ps.getD i 0 = ps[i] := by rw [List.getD_eq_getElem?_getD, List.getElem?_eq_getElem hi]; rfl
  rw [gi] at e
  rcases List.mem_append.mp ho with h | h
  · exact nd.2.2 _ (List.getElem_mem hi) o h e.symm
  · obtain ⟨j, hj, rfl⟩ := List.mem_iff_getElem.mp h
    rw [List.length_take] at hj
    rw [List.getElem_take] at e
    exact (List.pairwise_iff_getElem.mp nd.1) j i (by omega) hi (by omega) e
theorem Opn.step_pos (O : Opn xs ps size) {i : Nat} (hi : i < ps.length) : 0 < stepF xs ps i := lcmF_pos fun f hf => by
  obtain ⟨o, ho, rfl⟩ := List.mem_map.mp hf
  have := O.ne hi o ho
  omega
theorem Opn.n_pos (O : Opn xs ps size) {i : Nat} (hi : i < ps.length) : 0 < size / stepF xs ps i := Int.ediv_pos_of_pos_of_dvd O.pos (by have := O.step_pos hi; omega) (O.dv i hi)
theorem zip_fst : ∀ {ps vs : List Int}, vs.length ≤ ps.length → (ps.zip vs).map Prod.fst = ps.take vs.length
  | [], [], _ => rfl
  | [], v :: vs, h => by simp at h
  | p :: ps, [], _ => rfl
  | p :: ps, v :: vs, h => by
    show p :: (ps.zip vs).map Prod.fst = p :: ps.take vs.length
    rw [zip_fst (by simpa using h)]
theorem bk_fst {vs : List Int} (h : vs.length ≤ ps.length) : (xs ++ ps.zip vs).map Prod.fst = othF xs ps vs.length := by
  rw [List.map_append, zip_fst h]; rfl
theorem bk_step {vs : List Int} (h : vs.length ≤ ps.length) : lcmF (difP (xs ++ ps.zip vs) (ps.getD vs.length 0)) = stepF xs ps vs.length := by
  unfold stepF
  rw [← bk_fst h, List.map_map]
  rfl
theorem zip_snoc : ∀ {ps vs : List Int} {v : Int}, vs.length < ps.length → ps.zip (vs ++ [v]) = ps.zip vs ++ [(ps.getD vs.length 0, v)]
  | [], vs, v, h => by simp at h
  | p :: ps, [], v, _ => by simp
  | p :: ps, u :: vs, v, h => by
    show (p, u) :: ps.zip (vs ++ [v]) = (p, u) :: (ps.zip vs ++ [((p :: ps).getD (vs.length + 1) 0, v)])
    rw [zip_snoc (by simpa using h)]
    rfl
/-- values that fit, below the size -/
structure Good (xs : List (Int × Int)) (ps : List Int) (size : Int) (vs : List Int) : Prop where
  len : vs.length ≤ ps.length
  fit : Fits (xs ++ ps.zip vs)
  rng : ∀ v ∈ vs, 0 ≤ v ∧ v < size
theorem Good.nil (O : Opn xs ps size) : Good xs ps size [] := ⟨Nat.zero_le _, by simpa using O.fit, by simp⟩
theorem Opn.unt (O : Opn xs ps size) {vs : List Int} (h : vs.length < ps.length) : ∀ x ∈ xs ++ ps.zip vs, x.1 ≠ ps.getD vs.length 0 := fun x hx => by
  refine O.ne h x.1 ?_
  rw [← bk_fst (Nat.le_of_lt h)]
  exact List.mem_map.mpr ⟨x, hx, rfl⟩
/-- one value more: least + step * rounds -/
theorem Good.snoc (O : Opn xs ps size) {vs : List Int} (G : Good xs ps size vs) (h : vs.length < ps.length) {r : Int} (r0 : 0 ≤ r) (r1 : r < size / stepF xs ps vs.length) :
    Good xs ps size (vs ++ [leastF (xs ++ ps.zip vs) (ps.getD vs.length 0) + stepF xs ps vs.length * r]) := by
  have sp := O.step_pos h
  obtain ⟨a, b⟩ := least_rng (O.unt h)
  rw [bk_step G.len] at b
  refine ⟨by rw [List.length_append]; exact h, ?_, fun v hv => ?_⟩
  · rw [zip_snoc h, ← List.append_assoc]
    refine fits_snoc G.fit ((cls_iff (least_fit G.fit _) _).mpr ?_)
    rw [bk_step G.len]
    exact ⟨r, by omega⟩
  · rcases List.mem_append.mp hv with hv | hv
    · exact G.rng v hv
    · rw [List.mem_singleton.mp hv]
      have c : 0 ≤ stepF xs ps vs.length * r := Int.mul_nonneg (by omega) r0
      have d : stepF xs ps vs.length * r ≤ stepF xs ps vs.length * (size / stepF xs ps vs.length - 1) := Int.mul_le_mul_of_nonneg_left (by omega) (by omega)
      rw [Int.mul_sub, Int.mul_ediv_cancel' (O.dv _ h)] at d
      omega
/-- what can stand: just these -/
theorem can_iff (O : Opn xs ps size) {vs : List Int} (G : Good xs ps size vs) (h : vs.length < ps.length) (v : Int) :
    ((0 ≤ v ∧ v < size) ∧ ∀ x ∈ xs ++ ps.zip vs, (ps.getD vs.length 0 - x.1) ∣ (v - x.2)) ↔ ∃ r : Int, (0 ≤ r ∧ r < size / stepF xs ps vs.length) ∧ v = leastF (xs ++ ps.zip vs) (ps.getD vs.length 0) + stepF xs ps vs.length * r := by
  have sp := O.step_pos h
  obtain ⟨a, b⟩ := least_rng (O.unt h)
  rw [bk_step G.len] at b
  rw [cls_iff (least_fit G.fit _), bk_step G.len]
  constructor
  · rintro ⟨⟨h0, h1⟩, q, hq⟩
    have hv : v = leastF (xs ++ ps.zip vs) (ps.getD vs.length 0) + stepF xs ps vs.length * q := by omega
    obtain ⟨n, hn⟩ := O.dv _ h
    have en : size / stepF xs ps vs.length = n := Int.ediv_eq_of_eq_mul_right (by omega) hn
    rw [en]
    refine ⟨q, ⟨?_, ?_⟩, hv⟩
    · refine Int.not_lt.mp fun hq0 => ?_
      have : stepF xs ps vs.length * q ≤ stepF xs ps vs.length * (-1) := Int.mul_le_mul_of_nonneg_left (by omega) (by omega)
      rw [Int.mul_neg, Int.mul_one] at this
      omega
    · refine Int.not_le.mp fun hq0 => ?_
      have : stepF xs ps vs.length * n ≤ stepF xs ps vs.length * q := Int.mul_le_mul_of_nonneg_left (by omega) (by omega)
      omega
  · rintro ⟨r, ⟨r0, r1⟩, rfl⟩
    have g := (G.snoc O h r0 r1).rng _ (List.mem_append_right _ (List.mem_singleton.mpr rfl))
    exact ⟨g, r, by omega⟩
/-- the filling with an index -/
noncomputable def fillF (xs : List (Int × Int)) (ps : List Int) (size : Int) : Nat → Int → List Int
  | 0, _ => []
  | i + 1, k => fillF xs ps size i (k / (size / stepF xs ps i)) ++ [leastF (xs ++ ps.zip (fillF xs ps size i (k / (size / stepF xs ps i)))) (ps.getD i 0) + stepF xs ps i * (k % (size / stepF xs ps i))]
theorem fillF_len : ∀ (i : Nat) (k : Int), (fillF xs ps size i k).length = i
  | 0, _ => rfl
  | i + 1, k => by
    show (fillF xs ps size i _ ++ [_]).length = _
    rw [List.length_append, fillF_len i]; rfl
theorem fillF_good (O : Opn xs ps size) : ∀ (i : Nat) (k : Int), i ≤ ps.length → Good xs ps size (fillF xs ps size i k)
  | 0, _, _ => Good.nil O
  | i + 1, k, h => by
    have g := fillF_good O i (k / (size / stepF xs ps i)) (by omega)
    have n := O.n_pos (show i < ps.length by omega)
    have e := fillF_len (xs := xs) (ps := ps) (size := size) i (k / (size / stepF xs ps i))
    have := g.snoc O (by rw [e]; omega) (r := k % (size / stepF xs ps i)) (Int.emod_nonneg _ (by omega)) (by rw [e]; exact Int.emod_lt_of_pos _ n)
    rw [e] at this
    exact this
theorem steps_get {i : Nat} (h : i < (stepsF xs ps).length) : (stepsF xs ps)[i] = stepF xs ps i := by simp [stepsF]
theorem steps_drop {i : Nat} (h : i < ps.length) : (stepsF xs ps).drop i = stepF xs ps i :: (stepsF xs ps).drop (i + 1) := by
  have hl : i < (stepsF xs ps).length := by unfold stepsF; rw [List.length_map, List.length_range]; exact h
  rw [List.drop_eq_getElem_cons hl]
  rw [steps_get hl]
theorem steps_len : (stepsF xs ps).length = ps.length := by unfold stepsF; rw [List.length_map, List.length_range]
theorem steps_mem {s : Int} (h : s ∈ stepsF xs ps) : ∃ i, i < ps.length ∧ s = stepF xs ps i := by
  unfold stepsF at h
  obtain ⟨i, hi, rfl⟩ := List.mem_map.mp h
  exact ⟨i, List.mem_range.mp hi, rfl⟩
/-- how many there are from place i on -/
def latF (xs : List (Int × Int)) (ps : List Int) (size : Int) (i : Nat) : Int := cntF ((stepsF xs ps).drop i) size
theorem latF_end : latF xs ps size ps.length = 1 := by
  unfold latF
  rw [List.drop_of_length_le (by rw [steps_len]; exact Nat.le_refl _)]; rfl
theorem latF_step {i : Nat} (h : i < ps.length) : latF xs ps size i = size / stepF xs ps i * latF xs ps size (i + 1) := by
  unfold latF
  rw [steps_drop h, cntF_cons]
theorem latF_zero : latF xs ps size 0 = cntF (stepsF xs ps) size := rfl
theorem Opn.lat_pos (O : Opn xs ps size) (i : Nat) : 0 < latF xs ps size i := cntF_pos (fun s hs => by
  obtain ⟨j, hj, rfl⟩ := steps_mem (List.mem_of_mem_drop hs)
  exact ⟨O.step_pos hj, O.dv j hj⟩) O.pos
theorem mix_div {k n l : Int} (hl : 0 < l) (hn : 0 < n) : (k % (n * l)) / l = (k / l) % n := by
  have e := Int.emod_add_mul_ediv k (n * l)
  have r0 := Int.emod_nonneg k (show n * l ≠ 0 by have := Int.mul_pos hn hl; omega)
  have r1 := Int.emod_lt_of_pos k (Int.mul_pos hn hl)
  generalize k % (n * l) = r at *
  generalize k / (n * l) = q at *
  subst e
  rw [show r + n * l * q = r + l * (n * q) by rw [Int.mul_comm n l, Int.mul_assoc], Int.add_mul_ediv_left _ _ (by omega), Int.add_mul_emod_self_left]
  refine (Int.emod_eq_of_lt (Int.ediv_nonneg r0 (by omega)) ?_).symm
  exact Int.ediv_lt_of_lt_mul hl r1
theorem mix_mod {k n l : Int} : k % (n * l) % l = k % l := Int.emod_emod_of_dvd k (Int.dvd_mul_left _ _)
theorem mix_quo {k n l : Int} (hl : 0 < l) : k / l / n = k / (n * l) := by
  rw [Int.ediv_ediv, if_neg (by omega), Int.sub_zero, Int.mul_comm]
/-- the turn of nth_filling -/
theorem nth_turn (O : Opn xs ps size) {i : Nat} (h : i < ps.length) (k : Int) : fillF xs ps size (i + 1) (k / latF xs ps size (i + 1)) =
    fillF xs ps size i (k / latF xs ps size i) ++ [leastF (xs ++ ps.zip (fillF xs ps size i (k / latF xs ps size i))) (ps.getD i 0) + stepF xs ps i * (k % latF xs ps size i / latF xs ps size (i + 1))] ∧ k % latF xs ps size i % latF xs ps size (i + 1) = k % latF xs ps size (i + 1) := by
  have lp := O.lat_pos (i + 1)
  rw [latF_step h]
  refine ⟨?_, mix_mod⟩
  show fillF xs ps size i _ ++ [_] = _
  rw [mix_quo lp, mix_div lp (O.n_pos h)]
/-- the index of a filling -/
noncomputable def idxTo (xs : List (Int × Int)) (ps : List Int) (size : Int) (vs : List Int) : Nat → Int
  | 0 => 0
  | i + 1 => idxTo xs ps size vs i * (size / stepF xs ps i) + (vs.getD i 0 - leastF (xs ++ ps.zip (vs.take i)) (ps.getD i 0)) / stepF xs ps i
theorem zipTake : ∀ (ps vs : List Int) (i : Nat), ps.zip (vs.take i) = (ps.zip vs).take i
  | [], _, i => by simp
  | p :: ps, [], i => by simp
  | p :: ps, v :: vs, 0 => rfl
  | p :: ps, v :: vs, i + 1 => by
    show (p, v) :: ps.zip (vs.take i) = (p, v) :: (ps.zip vs).take i
    rw [zipTake]
theorem takeZip : ∀ (ps vs : List Int) (i : Nat), (ps.take i).zip vs = (ps.zip vs).take i
  | [], _, i => by simp
  | p :: ps, [], i => by simp
  | p :: ps, v :: vs, 0 => rfl
  | p :: ps, v :: vs, i + 1 => by
    show (p, v) :: (ps.take i).zip vs = (p, v) :: (ps.zip vs).take i
    rw [takeZip]
theorem zip_get2 : ∀ {ps vs : List Int} {i : Nat}, i < ps.length → i < vs.length → (ps.getD i 0, vs.getD i 0) ∈ ps.zip vs
  | [], _, i, h, _ => by simp at h
  | _ :: _, [], i, _, h => by simp at h
  | p :: ps, v :: vs, 0, _, _ => List.mem_cons_self ..
  | p :: ps, v :: vs, i + 1, h, g => List.mem_cons_of_mem _ (zip_get2 (ps := ps) (vs := vs) (i := i) (by simpa using h) (by simpa using g))
theorem Good.take {vs : List Int} (G : Good xs ps size vs) (i : Nat) : Good xs ps size (vs.take i) := by
  have sub : ∀ x ∈ xs ++ ps.zip (vs.take i), x ∈ xs ++ ps.zip vs := fun x hx => by
    rcases List.mem_append.mp hx with h | h
    · exact List.mem_append_left _ h
    · rw [zipTake] at h
      exact List.mem_append_right _ (List.mem_of_mem_take h)
  exact ⟨by have := G.len; rw [List.length_take]; omega, fun x hx y hy => G.fit x (sub x hx) y (sub y hy), fun v hv => G.rng v (List.mem_of_mem_take hv)⟩
/-- each value of a filling is one of its class -/
theorem Good.digit (O : Opn xs ps size) {vs : List Int} (G : Good xs ps size vs) {i : Nat} (h : i < vs.length) : ∃ r : Int, (0 ≤ r ∧ r < size / stepF xs ps i) ∧ vs.getD i 0 = leastF (xs ++ ps.zip (vs.take i)) (ps.getD i 0) + stepF xs ps i * r := by
  have hl := G.len
  have tl : (vs.take i).length = i := by rw [List.length_take]; omega
  have key := can_iff O (G.take i) (by rw [tl]; omega) (vs.getD i 0)
  rw [tl] at key
  refine key.mp ⟨G.rng _ ?_, fun x hx => ?_⟩
  · rw [List.getD_eq_getElem?_getD, List.getElem?_eq_getElem h]
    exact List.getElem_mem h
  · have a : x ∈ xs ++ ps.zip vs := by
      rcases List.mem_append.mp hx with g | g
      · exact List.mem_append_left _ g
      · rw [zipTake] at g
        exact List.mem_append_right _ (List.mem_of_mem_take g)
    exact G.fit _ (List.mem_append_right _ (zip_get2 (by omega) h)) x a
theorem Good.idx_rng (O : Opn xs ps size) {vs : List Int} (G : Good xs ps size vs) {B : Nat} (hB : size.natAbs ≤ 2 ^ B) : ∀ i, i ≤ vs.length → 0 ≤ idxTo xs ps size vs i ∧ (idxTo xs ps size vs i + 1).natAbs ≤ 2 ^ (B * i)
  | 0, _ => ⟨Int.le_refl _, by show (0 + 1 : Int).natAbs ≤ _; rw [Nat.mul_zero]; decide⟩
  | i + 1, h => by
    obtain ⟨a, b⟩ := Good.idx_rng O G hB i (by omega)
    obtain ⟨r, ⟨r0, r1⟩, er⟩ := G.digit O (show i < vs.length by omega)
    have hi : i < ps.length := by have := G.len; omega
    have sp := O.step_pos hi
    have np := O.n_pos hi
    have nl := Int.ediv_le_self (stepF xs ps i) (show 0 ≤ size by have := O.pos; omega)
    have e : idxTo xs ps size vs (i + 1) = idxTo xs ps size vs i * (size / stepF xs ps i) + r := by
      show _ + (vs.getD i 0 - _) / _ = _
      rw [er, show ∀ a b : Int, a + b - a = b by intros; omega, Int.mul_ediv_cancel_left _ (by omega)]
    rw [e]
    generalize idxTo xs ps size vs i = t at *
    generalize size / stepF xs ps i = n at *
    have c : 0 ≤ t * n := Int.mul_nonneg a (by omega)
    refine ⟨by omega, ?_⟩
    have d : t * n + r + 1 ≤ (t + 1) * n := by rw [Int.add_mul, Int.one_mul]; omega
    have f : (t * n + r + 1).natAbs ≤ ((t + 1) * n).natAbs := by omega
    refine Nat.le_trans f ?_
    rw [Int.natAbs_mul, Nat.mul_add, Nat.mul_one, Nat.pow_add]
    exact Nat.mul_le_mul b (Nat.le_trans (show n.natAbs ≤ size.natAbs by omega) hB)
end
/-- how great a least common multiple can be -/
theorem lcmF_bd {B : Nat} : ∀ {ns : List Int}, (∀ n ∈ ns, n.natAbs ≤ 2 ^ B) → (lcmF ns).natAbs ≤ 2 ^ (B * ns.length)
  | [], _ => by show (1 : Int).natAbs ≤ _; rw [List.length_nil, Nat.mul_zero]; decide
  | n :: ns, h => by
    have ih := lcmF_bd (ns := ns) fun m hm => h m (List.mem_cons_of_mem _ hm)
    have a := h n (List.mem_cons_self ..)
    show ((Int.lcm n (lcmF ns) : Nat) : Int).natAbs ≤ _
    rw [Int.natAbs_natCast, List.length_cons, Nat.mul_add, Nat.mul_one, Nat.pow_add, Nat.mul_comm]
    refine Nat.le_trans ?_ (Nat.mul_le_mul a ih)
    show Nat.lcm n.natAbs (lcmF ns).natAbs ≤ _
    rcases Nat.eq_zero_or_pos (n.natAbs * (lcmF ns).natAbs) with z | z
    · have : Nat.lcm n.natAbs (lcmF ns).natAbs = 0 := by unfold Nat.lcm; rw [z, Nat.zero_div]
      omega
    · exact Nat.le_of_dvd z (Nat.lcm_dvd_mul _ _)
end PW
/-! MSum -/
namespace PW
/-- told places with the value 0 -/
def zerB (xs : List (Int × Int)) : List (Int × Int) := xs.map fun x => (x.1, 0)
theorem zerB_fst (xs : List (Int × Int)) : (zerB xs).map Prod.fst = xs.map Prod.fst := by
  unfold zerB
  rw [List.map_map]
  rfl
theorem zerB_mem {xs : List (Int × Int)} {x : Int × Int} (h : x ∈ zerB xs) : x.2 = 0 ∧ x.1 ∈ xs.map Prod.fst := by
  obtain ⟨y, hy, rfl⟩ := List.mem_map.mp h
  exact ⟨rfl, List.mem_map.mpr ⟨y, hy, rfl⟩⟩
theorem zerB_of {xs : List (Int × Int)} {x : Int × Int} (h : x ∈ xs) : (x.1, 0) ∈ zerB xs := List.mem_map.mpr ⟨x, h, rfl⟩
theorem zerB_fits (xs : List (Int × Int)) : Fits (zerB xs) := fun x hx y hy => by
  rw [(zerB_mem hx).1, (zerB_mem hy).1]
  exact Int.dvd_zero _
theorem zerB_oth (xs : List (Int × Int)) (ps : List Int) (i : Nat) : othF (zerB xs) ps i = othF xs ps i := by unfold othF; rw [zerB_fst]
theorem zerB_step (xs : List (Int × Int)) (ps : List Int) (i : Nat) : stepF (zerB xs) ps i = stepF xs ps i := by unfold stepF; rw [zerB_oth]
theorem Opn.zer {xs : List (Int × Int)} {ps : List Int} {size : Int} (O : Opn xs ps size) : Opn (zerB xs) ps size :=
  ⟨zerB_fits xs, by rw [zerB_fst]; exact O.nd, O.pos, fun i hi => by rw [zerB_step]; exact O.dv i hi⟩
def FitsI (xs : List (Int × Int)) (p : Nat → Int) (n : Nat) (u : Nat → Int) : Prop := ∀ i, i < n → (∀ x ∈ xs, (p i - x.1) ∣ (u i - x.2)) ∧ ∀ j, j < n → (p i - p j) ∣ (u i - u j)
theorem zip_mem {ps vs : List Int} (h : vs.length ≤ ps.length) {x : Int × Int} : x ∈ ps.zip vs ↔ ∃ i, i < vs.length ∧ x = (ps.getD i 0, vs.getD i 0) := by
  constructor
  · intro hx
    obtain ⟨i, hi, e⟩ := List.mem_iff_getElem.mp hx
    rw [List.length_zip] at hi
    refine ⟨i, by omega, ?_⟩
    rw [← e, List.getElem_zip, List.getD_eq_getElem?_getD, List.getD_eq_getElem?_getD, List.getElem?_eq_getElem (show i < ps.length by omega), List.getElem?_eq_getElem (show i < vs.length by omega)]
    rfl
  · rintro ⟨i, hi, rfl⟩
    exact zip_get2 (by omega) hi
theorem fits_iff {xs : List (Int × Int)} {ps vs : List Int} (hx : Fits xs) (h : vs.length ≤ ps.length) : Fits (xs ++ ps.zip vs) ↔ FitsI xs (fun i => ps.getD i 0) vs.length (fun i => vs.getD i 0) := by
  constructor
  · intro f i hi
    have mi := List.mem_append_right xs ((zip_mem h).mpr ⟨i, hi, rfl⟩)
    exact ⟨fun x hx => f _ mi x (List.mem_append_left _ hx), fun j hj => f _ mi _ (List.mem_append_right xs ((zip_mem h).mpr ⟨j, hj, rfl⟩))⟩
  · intro f x hx' y hy'
    rcases List.mem_append.mp hx' with hx1 | hx1 <;> rcases List.mem_append.mp hy' with hy1 | hy1
    · exact hx x hx1 y hy1
    · obtain ⟨i, hi, rfl⟩ := (zip_mem h).mp hy1
      have := Int.dvd_neg.mpr (Int.neg_dvd.mpr ((f i hi).1 x hx1))
      show (x.1 - ps.getD i 0) ∣ (x.2 - vs.getD i 0)
      rwa [show -(vs.getD i 0 - x.2) = x.2 - vs.getD i 0 by omega, show -(ps.getD i 0 - x.1) = x.1 - ps.getD i 0 by omega] at this
    · obtain ⟨i, hi, rfl⟩ := (zip_mem h).mp hx1
      exact (f i hi).1 y hy1
    · obtain ⟨i, hi, rfl⟩ := (zip_mem h).mp hx1
      obtain ⟨j, hj, rfl⟩ := (zip_mem h).mp hy1
      exact (f i hi).2 j hj
theorem FitsI.sub {xs : List (Int × Int)} {p : Nat → Int} {n : Nat} {u v : Nat → Int} (h : FitsI xs p n u) (g : FitsI xs p n v) : FitsI (zerB xs) p n (fun i => u i - v i) := fun i hi => by
  refine ⟨fun x hx => ?_, fun j hj => ?_⟩
  · obtain ⟨y, hy, rfl⟩ := List.mem_map.mp hx
    have := Int.dvd_sub ((h i hi).1 y hy) ((g i hi).1 y hy)
    show (p i - y.1) ∣ (u i - v i - 0)
    rwa [show u i - y.2 - (v i - y.2) = u i - v i - 0 by omega] at this
  · have := Int.dvd_sub ((h i hi).2 j hj) ((g i hi).2 j hj)
    show (p i - p j) ∣ (u i - v i - (u j - v j))
    rwa [show u i - u j - (v i - v j) = u i - v i - (u j - v j) by omega] at this
theorem FitsI.lin {xs : List (Int × Int)} {p : Nat → Int} {n : Nat} {u v : Nat → Int} (h : FitsI (zerB xs) p n u) (g : FitsI (zerB xs) p n v) (a b : Int) : FitsI (zerB xs) p n (fun i => a * u i + b * v i) := fun i hi => by
  refine ⟨fun x hx => ?_, fun j hj => ?_⟩
  · have z := (zerB_mem hx).1
    have h1 := (h i hi).1 x hx
    have g1 := (g i hi).1 x hx
    rw [z, Int.sub_zero] at h1 g1 ⊢
    exact Int.dvd_add (Int.dvd_mul_of_dvd_right h1) (Int.dvd_mul_of_dvd_right g1)
  · have h1 := Int.dvd_mul_of_dvd_right (b := a) ((h i hi).2 j hj)
    have g1 := Int.dvd_mul_of_dvd_right (b := b) ((g i hi).2 j hj)
    have := Int.dvd_add h1 g1
    rw [Int.mul_sub, Int.mul_sub] at this
    show (p i - p j) ∣ (a * u i + b * v i - (a * u j + b * v j))
    rwa [show a * u i - a * u j + (b * v i - b * v j) = a * u i + b * v i - (a * u j + b * v j) by omega] at this
theorem FitsI.add {xs : List (Int × Int)} {p : Nat → Int} {n : Nat} {u v : Nat → Int} (h : FitsI xs p n u) (g : FitsI (zerB xs) p n v) : FitsI xs p n (fun i => u i + v i) := fun i hi => by
  refine ⟨fun x hx => ?_, fun j hj => ?_⟩
  · have h1 := (h i hi).1 x hx
    have g1 := (g i hi).1 _ (zerB_of hx)
    rw [Int.sub_zero] at g1
    have := Int.dvd_add h1 g1
    show (p i - x.1) ∣ (u i + v i - x.2)
    rwa [show u i - x.2 + v i = u i + v i - x.2 by omega] at this
  · have := Int.dvd_add ((h i hi).2 j hj) ((g i hi).2 j hj)
    show (p i - p j) ∣ (u i + v i - (u j + v j))
    rwa [show u i - u j + (v i - v j) = u i + v i - (u j + v j) by omega] at this
theorem FitsI.congr {xs : List (Int × Int)} {p : Nat → Int} {n : Nat} {u v : Nat → Int} (h : FitsI xs p n u) (e : ∀ i, i < n → v i = u i) : FitsI xs p n v := fun i hi => by
  rw [e i hi]
  exact ⟨(h i hi).1, fun j hj => by rw [e j hj]; exact (h i hi).2 j hj⟩
def dotI (w u : Nat → Int) : Nat → Int
  | 0 => 0
  | n + 1 => dotI w u n + w n * u n
theorem dotI_congr {w u v : Nat → Int} : ∀ {n : Nat}, (∀ i, i < n → u i = v i) → dotI w u n = dotI w v n
  | 0, _ => rfl
  | n + 1, h => by
    show dotI w u n + w n * u n = dotI w v n + w n * v n
    rw [dotI_congr fun i hi => h i (by omega), h n (by omega)]
theorem dotI_zero {w u : Nat → Int} : ∀ {n : Nat}, (∀ i, i < n → u i = 0) → dotI w u n = 0
  | 0, _ => rfl
  | n + 1, h => by
    show dotI w u n + w n * u n = 0
    rw [dotI_zero fun i hi => h i (by omega), h n (by omega), Int.mul_zero, Int.zero_add]
theorem dotI_lin (w u v : Nat → Int) (a b : Int) : ∀ n, dotI w (fun i => a * u i + b * v i) n = a * dotI w u n + b * dotI w v n
  | 0 => by show (0 : Int) = a * 0 + b * 0; omega
  | n + 1 => by
    show dotI w (fun i => a * u i + b * v i) n + w n * (a * u n + b * v n) = a * (dotI w u n + w n * u n) + b * (dotI w v n + w n * v n)
    rw [dotI_lin w u v a b n, Int.mul_add, Int.mul_add, Int.mul_add, ← Int.mul_assoc, ← Int.mul_assoc, ← Int.mul_assoc, ← Int.mul_assoc, Int.mul_comm (w n) a, Int.mul_comm (w n) b]
    omega
theorem dotI_add (w u v : Nat → Int) (n : Nat) : dotI w (fun i => u i + v i) n = dotI w u n + dotI w v n := by
  have := dotI_lin w u v 1 1 n
  rw [Int.one_mul, Int.one_mul] at this
  rw [← this]
  exact dotI_congr fun i _ => by rw [Int.one_mul, Int.one_mul]
theorem dotI_sub (w u v : Nat → Int) (n : Nat) : dotI w (fun i => u i - v i) n = dotI w u n - dotI w v n := by
  have := dotI_lin w u v 1 (-1) n
  rw [show (1 : Int) * dotI w u n + -1 * dotI w v n = dotI w u n - dotI w v n by omega] at this
  rw [← this]
  exact dotI_congr fun i _ => by omega
/-- lines of a triangle: zeros, the step -/
structure Tri (xs : List (Int × Int)) (ps : List Int) (r : Nat → Nat → Int) : Prop where
  fit : ∀ k, k < ps.length → FitsI (zerB xs) (fun i => ps.getD i 0) ps.length (r k)
  zer : ∀ k i, k < ps.length → i < k → r k i = 0
  stp : ∀ k, k < ps.length → r k k = stepF xs ps k
theorem step_dvd {xs : List (Int × Int)} {ps : List Int} {k : Nat} (hk : k < ps.length) {u : Nat → Int} (h : FitsI (zerB xs) (fun i => ps.getD i 0) ps.length u) (z : ∀ i, i < k → u i = 0) : stepF xs ps k ∣ u k := (lcmF_dvd _ _).mpr fun f hf => by
  obtain ⟨o, ho, rfl⟩ := List.mem_map.mp hf
  rcases List.mem_append.mp ho with g | g
  · obtain ⟨x, hx, rfl⟩ := List.mem_map.mp g
    have := (h k hk).1 _ (zerB_of hx)
    rwa [Int.sub_zero] at this
  · obtain ⟨j, hj, rfl⟩ := List.mem_iff_getElem.mp g
    rw [List.length_take] at hj
    have := (h k hk).2 j (by omega)
    rw [z j (by omega), Int.sub_zero] at this
    rw [List.getElem_take]
    have e : ps.getD j 0 = ps[j]'(by omega) := by rw [List.getD_eq_getElem?_getD, List.getElem?_eq_getElem (by omega)]; rfl
    have this : (ps.getD k 0 - ps.getD j 0) ∣ u k := this
    rwa [e] at this
theorem tri_dvd {xs : List (Int × Int)} {ps : List Int} {r : Nat → Nat → Int} (T : Tri xs ps r) {w : Nat → Int} {g : Int} (hg : ∀ k, k < ps.length → g ∣ dotI w (r k) ps.length) :
    ∀ (d : Nat) (u : Nat → Int), d ≤ ps.length → (∀ i, i < ps.length - d → u i = 0) → FitsI (zerB xs) (fun i => ps.getD i 0) ps.length u → g ∣ dotI w u ps.length
  | 0, u, _, z, _ => by rw [dotI_zero fun i hi => z i (by omega)]; exact Int.dvd_zero _
  | d + 1, u, hd, z, h => by
    have hk : ps.length - (d + 1) < ps.length := by omega
    obtain ⟨q, hq⟩ := step_dvd hk h z
    have f := h.lin (T.fit _ hk) 1 (-q)
    have ih := tri_dvd T hg d _ (by omega) (fun i hi => ?_) f
    · rw [dotI_lin] at ih
      have a := Int.dvd_mul_of_dvd_right (b := q) (hg _ hk)
      have := Int.dvd_add ih a
      rwa [Int.one_mul, Int.neg_mul, show ∀ a b : Int, a + -b + b = a by intros; omega] at this
    · show 1 * u i + -q * r (ps.length - (d + 1)) i = 0
      by_cases e : i = ps.length - (d + 1)
      · rw [e, hq, T.stp _ hk, Int.one_mul, Int.neg_mul, Int.mul_comm q]; omega
      · rw [z i (by omega), T.zer _ i hk (by omega), Int.mul_zero, Int.mul_zero, Int.zero_add]
/-- the greatest common divisor of the sums of the lines -/
def gcdTo (w : Nat → Int) (r : Nat → Nat → Int) (n : Nat) : Nat → Int
  | 0 => 0
  | k + 1 => (Int.gcd (gcdTo w r n k) (dotI w (r k) n) : Nat)
theorem gcdTo_nn (w : Nat → Int) (r : Nat → Nat → Int) (n : Nat) : ∀ k, 0 ≤ gcdTo w r n k
  | 0 => Int.le_refl _
  | _ + 1 => Int.natCast_nonneg _
theorem gcdTo_dvd (w : Nat → Int) (r : Nat → Nat → Int) (n : Nat) : ∀ k i, i < k → gcdTo w r n k ∣ dotI w (r i) n
  | 0, i, h => by omega
  | k + 1, i, h => by
    show ((Int.gcd (gcdTo w r n k) (dotI w (r k) n) : Nat) : Int) ∣ _
    by_cases e : i = k
    · rw [e]; exact Int.gcd_dvd_right ..
    · exact Int.dvd_trans (Int.gcd_dvd_left ..) (gcdTo_dvd w r n k i (by omega))
theorem bezF (a b : Int) : ∃ x y : Int, x * a + y * b = (Int.gcd a b : Nat) := by
  have key : ∀ (n m : Nat), ∃ x y : Int, x * (m : Int) + y * (n : Int) = (Nat.gcd m n : Nat) := by
    intro n
    induction n using Nat.strongRecOn with
    | _ n ih =>
      intro m
      rcases Nat.eq_zero_or_pos n with z | z
      · subst z
        exact ⟨1, 0, by rw [Nat.gcd_zero_right]; omega⟩
      · obtain ⟨x, y, h⟩ := ih (m % n) (Nat.mod_lt _ z) n
        refine ⟨y, x - y * ((m / n : Nat) : Int), ?_⟩
        rw [Nat.gcd_comm m n, Nat.gcd_rec n m, Nat.gcd_comm (m % n) n, ← h]
        have e : ((m % n : Nat) : Int) = (m : Int) - (n : Int) * ((m / n : Nat) : Int) := by
          have := Nat.div_add_mod m n
          have : ((n * (m / n) + m % n : Nat) : Int) = (m : Int) := by rw [this]
          rw [Int.natCast_add, Int.natCast_mul] at this
          omega
        rw [e, Int.mul_sub, Int.sub_mul, Int.mul_assoc, Int.mul_comm ((m / n : Nat) : Int) (n : Int)]
        omega
  obtain ⟨x, y, h⟩ := key b.natAbs a.natAbs
  have sg : ∀ z : Int, ∃ s : Int, s * z = (z.natAbs : Int) := fun z => by
    rcases Int.le_total 0 z with h | h
    · exact ⟨1, by omega⟩
    · exact ⟨-1, by omega⟩
  obtain ⟨s, hs⟩ := sg a
  obtain ⟨t, ht⟩ := sg b
  refine ⟨x * s, y * t, ?_⟩
  rw [Int.mul_assoc, Int.mul_assoc, hs, ht, h]
  rfl
theorem gcdTo_ex {xs : List (Int × Int)} {ps : List Int} {r : Nat → Nat → Int} (T : Tri xs ps r) (w : Nat → Int) : ∀ k, k ≤ ps.length → ∃ u, FitsI (zerB xs) (fun i => ps.getD i 0) ps.length u ∧ dotI w u ps.length = gcdTo w r ps.length k
  | 0, _ => ⟨fun _ => 0, fun i _ => ⟨fun x hx => by rw [(zerB_mem hx).1]; exact Int.dvd_zero _, fun j _ => Int.dvd_zero _⟩, dotI_zero fun _ _ => rfl⟩
  | k + 1, h => by
    obtain ⟨u, hu, e⟩ := gcdTo_ex T w k (by omega)
    obtain ⟨x, y, b⟩ := bezF (gcdTo w r ps.length k) (dotI w (r k) ps.length)
    refine ⟨_, hu.lin (T.fit k (by omega)) x y, ?_⟩
    rw [dotI_lin, e, b]
    rfl
/-- all weighted sums of what fits: a class -/
theorem sums_cls {xs : List (Int × Int)} {ps : List Int} {r : Nat → Nat → Int} (T : Tri xs ps r) (w : Nat → Int) {v : Nat → Int} (hv : FitsI xs (fun i => ps.getD i 0) ps.length v) (z : Int) :
    (∃ u, FitsI xs (fun i => ps.getD i 0) ps.length u ∧ dotI w u ps.length = z) ↔ gcdTo w r ps.length ps.length ∣ z - dotI w v ps.length := by
  constructor
  · rintro ⟨u, hu, rfl⟩
    have := tri_dvd T (fun k hk => gcdTo_dvd w r ps.length ps.length k hk) ps.length _ (Nat.le_refl _) (fun i hi => by omega) (hu.sub hv)
    rwa [dotI_sub] at this
  · rintro ⟨q, hq⟩
    obtain ⟨u, hu, e⟩ := gcdTo_ex T w ps.length (Nat.le_refl _)
    have hu2 := hu.lin hu q 0
    refine ⟨_, hv.add hu2, ?_⟩
    rw [dotI_add, dotI_lin, e, Int.zero_mul, Int.add_zero, Int.mul_comm]
    omega
section
variable {xs : List (Int × Int)} {ps : List Int} {size : Int}
noncomputable def rowTo (xs : List (Int × Int)) (ps : List Int) (k : Nat) : Nat → List Int
  | 0 => List.replicate k 0 ++ [stepF xs ps k]
  | j + 1 => rowTo xs ps k j ++ [leastF (zerB xs ++ ps.zip (rowTo xs ps k j)) (ps.getD (k + 1 + j) 0)]
theorem rowTo_len (k : Nat) : ∀ j, (rowTo xs ps k j).length = k + 1 + j
  | 0 => by show (List.replicate k (0 : Int) ++ [_]).length = _; rw [List.length_append, List.length_replicate]; rfl
  | j + 1 => by show (rowTo xs ps k j ++ [_]).length = _; rw [List.length_append, rowTo_len k j]; rfl
theorem zero_fits (k : Nat) (hk : k ≤ ps.length) : Fits (zerB xs ++ ps.zip (List.replicate k (0 : Int))) := fun x hx y hy => by
  have z : ∀ x ∈ zerB xs ++ ps.zip (List.replicate k (0 : Int)), x.2 = 0 := fun x hx => by
    rcases List.mem_append.mp hx with g | g
    · exact (zerB_mem g).1
    · obtain ⟨i, hi, rfl⟩ := (zip_mem (by rw [List.length_replicate]; exact hk)).mp g
      rw [List.length_replicate] at hi
      show (List.replicate k (0 : Int)).getD i 0 = 0
      rw [List.getD_eq_getElem?_getD, List.getElem?_replicate, if_pos hi]; rfl
  rw [z x hx, z y hy]
  exact Int.dvd_zero _
theorem rowTo_fits (O : Opn xs ps size) {k : Nat} (hk : k < ps.length) : ∀ j, k + 1 + j ≤ ps.length → Fits (zerB xs ++ ps.zip (rowTo xs ps k j))
  | 0, _ => by
    show Fits (zerB xs ++ ps.zip (List.replicate k (0 : Int) ++ [_]))
    have l : (List.replicate k (0 : Int)).length = k := List.length_replicate ..
    rw [zip_snoc (by rw [l]; exact hk), ← List.append_assoc]
    refine fits_snoc (zero_fits k (by omega)) ?_
    have f0 := zero_fits (xs := xs) (ps := ps) k (by omega)
    have z : ∀ x ∈ zerB xs ++ ps.zip (List.replicate k (0 : Int)), (ps.getD (List.replicate k (0 : Int)).length 0 - x.1) ∣ (0 - x.2) := fun x hx => by
      have : x.2 = 0 := by
        rcases List.mem_append.mp hx with g | g
        · exact (zerB_mem g).1
        · obtain ⟨i, hi, rfl⟩ := (zip_mem (by rw [l]; omega)).mp g
          rw [l] at hi
          show (List.replicate k (0 : Int)).getD i 0 = 0
          rw [List.getD_eq_getElem?_getD, List.getElem?_replicate, if_pos hi]; rfl
      rw [this]
      exact Int.dvd_zero _
    refine (cls_iff z _).mpr ?_
    rw [bk_step (by rw [l]; omega), l, zerB_step, Int.sub_zero]
    exact Int.dvd_refl _
  | j + 1, h => by
    have ih := rowTo_fits O hk j (by omega)
    have l := rowTo_len (xs := xs) (ps := ps) k j
    show Fits (zerB xs ++ ps.zip (rowTo xs ps k j ++ [_]))
    rw [zip_snoc (by omega), ← List.append_assoc, l]
    exact fits_snoc ih (least_fit ih _)
theorem rowTo_pre (k : Nat) : ∀ j i, i ≤ k → (rowTo xs ps k j).getD i 0 = if i < k then 0 else stepF xs ps k
  | 0, i, h => by
    show (List.replicate k (0 : Int) ++ [_]).getD i 0 = _
    rw [List.getD_eq_getElem?_getD]
    split
    · rename_i hi
      rw [List.getElem?_append_left (by rw [List.length_replicate]; exact hi), List.getElem?_replicate, if_pos hi]; rfl
    · rw [List.getElem?_append_right (by rw [List.length_replicate]; omega), List.length_replicate, show i - k = 0 by omega]; rfl
  | j + 1, i, h => by
    rw [← rowTo_pre k j i h]
    show (rowTo xs ps k j ++ [_]).getD i 0 = _
    rw [List.getD_eq_getElem?_getD, List.getElem?_append_left (by rw [rowTo_len]; omega), ← List.getD_eq_getElem?_getD]
/-- the triangle's line -/
noncomputable def rowF (xs : List (Int × Int)) (ps : List Int) (k : Nat) : List Int := rowTo xs ps k (ps.length - (k + 1))
theorem rowF_len {k : Nat} (hk : k < ps.length) : (rowF xs ps k).length = ps.length := by unfold rowF; rw [rowTo_len]; omega
theorem rowF_fits (O : Opn xs ps size) {k : Nat} (hk : k < ps.length) : Fits (zerB xs ++ ps.zip (rowF xs ps k)) := rowTo_fits O hk _ (by omega)
theorem tri_of (O : Opn xs ps size) : Tri xs ps (fun k i => (rowF xs ps k).getD i 0) := by
  refine ⟨fun k hk => ?_, fun k i hk hi => ?_, fun k hk => ?_⟩
  · have := (fits_iff (zerB_fits xs) (by rw [rowF_len hk]; exact Nat.le_refl _)).mp (rowF_fits O hk)
    rwa [rowF_len hk] at this
  · show (rowTo xs ps k _).getD i 0 = 0
    rw [rowTo_pre k _ i (by omega), if_pos hi]
  · show (rowTo xs ps k _).getD k 0 = _
    rw [rowTo_pre k _ k (Nat.le_refl _), if_neg (by omega)]
/-- the least values, place by place -/
noncomputable def lstTo (xs : List (Int × Int)) (ps : List Int) : Nat → List Int
  | 0 => []
  | j + 1 => lstTo xs ps j ++ [leastF (xs ++ ps.zip (lstTo xs ps j)) (ps.getD j 0)]
theorem lstTo_len : ∀ j, (lstTo xs ps j).length = j
  | 0 => rfl
  | j + 1 => by show (lstTo xs ps j ++ [_]).length = _; rw [List.length_append, lstTo_len j]; rfl
theorem lstTo_fits (O : Opn xs ps size) : ∀ j, j ≤ ps.length → Fits (xs ++ ps.zip (lstTo xs ps j))
  | 0, _ => by
    have := O.fit
    simpa [lstTo] using this
  | j + 1, h => by
    have ih := lstTo_fits O j (by omega)
    have l := lstTo_len (xs := xs) (ps := ps) j
    show Fits (xs ++ ps.zip (lstTo xs ps j ++ [_]))
    rw [zip_snoc (by omega), ← List.append_assoc, l]
    exact fits_snoc ih (least_fit ih _)
/-- 0 to below the step -/
theorem least_step (O : Opn xs ps size) {vs : List Int} {j : Nat} (l : vs.length = j) (h : j < ps.length) : 0 ≤ leastF (xs ++ ps.zip vs) (ps.getD j 0) ∧ leastF (xs ++ ps.zip vs) (ps.getD j 0) < stepF xs ps j := by
  subst l
  have := least_rng (O.unt h)
  rwa [bk_step (Nat.le_of_lt h)] at this
theorem rowTo_bd (O : Opn xs ps size) {B : Int} (hB : ∀ i, i < ps.length → stepF xs ps i ≤ B) {k : Nat} (hk : k < ps.length) (B0 : 0 ≤ B) : ∀ j, k + 1 + j ≤ ps.length → ∀ v ∈ rowTo xs ps k j, 0 ≤ v ∧ v ≤ B
  | 0, _ => fun v hv => by
    rcases List.mem_append.mp hv with g | g
    · rw [(List.mem_replicate.mp g).2]
      exact ⟨Int.le_refl _, B0⟩
    · rw [List.mem_singleton.mp g]
      have := O.step_pos hk
      exact ⟨by omega, hB k hk⟩
  | j + 1, h => fun v hv => by
    rcases List.mem_append.mp hv with g | g
    · exact rowTo_bd O hB hk B0 j (by omega) v g
    · rw [List.mem_singleton.mp g]
      have a := least_step O.zer (rowTo_len (xs := xs) (ps := ps) k j) (show k + 1 + j < ps.length by omega)
      rw [zerB_step] at a
      have := hB (k + 1 + j) (by omega)
      exact ⟨a.1, by omega⟩
theorem lstTo_bd (O : Opn xs ps size) {B : Int} (hB : ∀ i, i < ps.length → stepF xs ps i ≤ B) : ∀ j, j ≤ ps.length → ∀ v ∈ lstTo xs ps j, 0 ≤ v ∧ v ≤ B
  | 0, _ => fun v hv => by cases hv
  | j + 1, h => fun v hv => by
    rcases List.mem_append.mp hv with g | g
    · exact lstTo_bd O hB j (by omega) v g
    · rw [List.mem_singleton.mp g]
      have a := least_step O (lstTo_len (xs := xs) (ps := ps) j) (show j < ps.length by omega)
      have := hB j (by omega)
      exact ⟨a.1, by omega⟩
def dotF (ws us : List Int) : Int := dotI (fun i => ws.getD i 0) (fun i => us.getD i 0) us.length
theorem sums_clsF (O : Opn xs ps size) {ws : List Int} (z : Int) :
    (∃ u : List Int, u.length = ps.length ∧ Fits (xs ++ ps.zip u) ∧ dotF ws u = z) ↔ gcdTo (fun i => ws.getD i 0) (fun k i => (rowF xs ps k).getD i 0) ps.length ps.length ∣ z - dotF ws (lstTo xs ps ps.length) := by
  have l := lstTo_len (xs := xs) (ps := ps) ps.length
  have hv := (fits_iff O.fit (by rw [l]; exact Nat.le_refl _)).mp (lstTo_fits O ps.length (Nat.le_refl _))
  rw [l] at hv
  unfold dotF
  rw [l]
  refine Iff.trans ?_ (sums_cls (tri_of O) (fun i => ws.getD i 0) hv z)
  constructor
  · rintro ⟨u, hl, hf, rfl⟩
    have := (fits_iff O.fit (by rw [hl]; exact Nat.le_refl _)).mp hf
    rw [hl] at this ⊢
    exact ⟨_, this, rfl⟩
  · rintro ⟨u, hf, rfl⟩
    have g : ∀ i, i < ps.length → ((List.range ps.length).map u).getD i 0 = u i := fun i hi => by
      rw [List.getD_eq_getElem?_getD, List.getElem?_map, List.getElem?_range hi]; rfl
    have ll : ((List.range ps.length).map u).length = ps.length := by rw [List.length_map, List.length_range]
    refine ⟨(List.range ps.length).map u, ll, (fits_iff O.fit (by rw [ll]; exact Nat.le_refl _)).mpr ?_, ?_⟩
    · rw [ll]
      exact hf.congr g
    · rw [ll]
      exact dotI_congr g
end
end PW
/-! MPer -/
namespace PW
/-- the step of a place beside those told -/
def stepT (T : List Int) (p : Int) : Int := lcmF (T.map fun o => p - o)
theorem stepT_congr {T T' : List Int} (h : ∀ o, o ∈ T ↔ o ∈ T') (p : Int) : stepT T p = stepT T' p := lcmF_uniq (lcmF_nn _) fun z => by
  unfold stepT
  rw [lcmF_dvd]
  constructor
  · intro g f hf
    obtain ⟨o, ho, rfl⟩ := List.mem_map.mp hf
    exact g _ (List.mem_map.mpr ⟨o, (h o).mpr ho, rfl⟩)
  · intro g f hf
    obtain ⟨o, ho, rfl⟩ := List.mem_map.mp hf
    exact g _ (List.mem_map.mpr ⟨o, (h o).mp ho, rfl⟩)
def prodS : List Int → List Int → Int
  | _, [] => 1
  | T, p :: ps => stepT T p * prodS (T ++ [p]) ps
theorem prodS_congr : ∀ (ps : List Int) {T T' : List Int}, (∀ o, o ∈ T ↔ o ∈ T') → prodS T ps = prodS T' ps
  | [], _, _, _ => rfl
  | p :: ps, T, T', h => by
    show stepT T p * _ = stepT T' p * _
    rw [stepT_congr h, prodS_congr ps (T := T ++ [p]) (T' := T' ++ [p]) fun o => by rw [List.mem_append, List.mem_append, h o]]
/-- what a least common multiple of distances has in common with the distance of two places -/
theorem gcd_two (T : List Int) {p q : Int} (h : p ≠ q) : Int.gcd (stepT T p) (q - p) = Int.gcd (stepT T q) (q - p) := by
  have key : ∀ m : Int, 0 < m → m ∣ q - p → Int.gcd (stepT T p) m = Int.gcd (stepT T q) m := fun m hm d => by
    have e : p % m = q % m := (Int.emod_emod_of_dvd p (Int.dvd_refl m)).symm.trans ((Int.emod_emod_of_dvd p (Int.dvd_refl m)).trans (by
      refine Int.emod_eq_emod_iff_emod_sub_eq_zero.mpr (Int.emod_eq_zero_of_dvd ?_)
      rw [show p - q = -(q - p) by omega]
      exact Int.dvd_neg.mpr d))
    have a := sureF_mod (T.map fun o => (o, (0 : Int))) hm p
    have b := sureF_mod (T.map fun o => (o, (0 : Int))) hm q
    rw [e] at a
    have c := a.symm.trans b
    rw [sureF_gcd _ hm, sureF_gcd _ hm, List.map_map, List.map_map] at c
    exact Int.ofNat_inj.mp c
  rcases Int.lt_or_gt_of_ne h with g | g
  · exact key (q - p) (by omega) (Int.dvd_refl _)
  · have := key (p - q) (by omega) (by rw [show p - q = -(q - p) by omega]; exact Int.neg_dvd.mpr (Int.dvd_refl _))
    rw [show p - q = -(q - p) by omega, Int.gcd_neg, Int.gcd_neg] at this
    exact this
theorem step_swap (T : List Int) {p q : Int} (h : p ≠ q) : stepT T p * stepT (T ++ [p]) q = stepT T q * stepT (T ++ [q]) p := by
  have e1 : stepT (T ++ [p]) q = (Int.lcm (stepT T q) (q - p) : Int) := by
    unfold stepT
    rw [List.map_append]
    exact lcmF_snoc _ _
  have e2 : stepT (T ++ [q]) p = (Int.lcm (stepT T p) (p - q) : Int) := by
    unfold stepT
    rw [List.map_append]
    exact lcmF_snoc _ _
  have g := gcd_two T h
  have a0 : 0 ≤ stepT T p := lcmF_nn _
  have b0 : 0 ≤ stepT T q := lcmF_nn _
  rw [e1, e2]
  have e3 : Int.lcm (stepT T p) (p - q) = Int.lcm (stepT T p) (q - p) := by
    show Nat.lcm _ (p - q).natAbs = Nat.lcm _ (q - p).natAbs
    rw [show (p - q).natAbs = (q - p).natAbs by omega]
  rw [e3]
  obtain ⟨A, hA⟩ := Int.eq_ofNat_of_zero_le a0
  obtain ⟨B, hB⟩ := Int.eq_ofNat_of_zero_le b0
  rw [hA, hB] at g ⊢
  have d0 : 0 < (q - p).natAbs := by omega
  generalize q - p = d at *
  have g : Nat.gcd A d.natAbs = Nat.gcd B d.natAbs := g
  show (A : Int) * ((Nat.lcm B d.natAbs : Nat) : Int) = (B : Int) * ((Nat.lcm A d.natAbs : Nat) : Int)
  rw [← Int.natCast_mul, ← Int.natCast_mul]
  congr 1
  have x := Nat.gcd_mul_lcm A d.natAbs
  have y := Nat.gcd_mul_lcm B d.natAbs
  have gp := Nat.gcd_pos_of_pos_right A d0
  rw [← g] at y
  refine Nat.eq_of_mul_eq_mul_left gp ?_
  rw [Nat.mul_left_comm _ A, y, Nat.mul_left_comm (Nat.gcd A d.natAbs) B (Nat.lcm A d.natAbs), x, Nat.mul_left_comm]
theorem prodS_perm {ps qs : List Int} (h : ps.Perm qs) : ∀ T : List Int, ps.Nodup → prodS T ps = prodS T qs := by
  induction h with
  | nil => intro T _; rfl
  | cons a _ ih => intro T n; show stepT T a * _ = stepT T a * _; rw [ih _ (List.nodup_cons.mp n).2]
  | swap a b l =>
    intro T n
    have ne : b ≠ a := fun e => (List.nodup_cons.mp n).1 (by rw [e]; exact List.mem_cons_self)
    show stepT T b * (stepT (T ++ [b]) a * prodS (T ++ [b] ++ [a]) l) = stepT T a * (stepT (T ++ [a]) b * prodS (T ++ [a] ++ [b]) l)
    rw [← Int.mul_assoc, ← Int.mul_assoc, step_swap T ne, prodS_congr l (T := T ++ [b] ++ [a]) (T' := T ++ [a] ++ [b]) fun o => by simp [or_comm, or_left_comm, or_assoc]]
  | trans h1 h2 ih1 ih2 => intro T n; rw [ih1 T n, ih2 T ((h1.nodup_iff).mp n)]
/-- the product as it is made -/
def prodF (ss : List Int) : Int := ss.foldl (fun a s => a * s) 1
theorem prodF_from : ∀ (ss : List Int) (a : Int), ss.foldl (fun a s => a * s) a = a * prodF ss
  | [], a => by show a = a * 1; rw [Int.mul_one]
  | s :: ss, a => by
    show ss.foldl _ (a * s) = a * ss.foldl _ (1 * s)
    rw [prodF_from ss, prodF_from ss (1 * s), Int.one_mul, Int.mul_assoc]
theorem prodF_cons (s : Int) (ss : List Int) : prodF (s :: ss) = s * prodF ss := by
  show ss.foldl _ (1 * s) = _
  rw [prodF_from, Int.one_mul]
theorem prodF_snoc (ss : List Int) (s : Int) : prodF (ss ++ [s]) = prodF ss * s := by
  unfold prodF
  rw [List.foldl_append]
  rfl
theorem prodF_steps : ∀ (ps T : List Int), prodF ((List.range ps.length).map fun i => stepT (T ++ ps.take i) (ps.getD i 0)) = prodS T ps
  | [], _ => rfl
  | p :: ps, T => by
    rw [List.length_cons, List.range_succ_eq_map, List.map_cons, List.map_map, prodF_cons]
    show stepT (T ++ []) p * _ = stepT T p * prodS (T ++ [p]) ps
    rw [List.append_nil, ← prodF_steps ps (T ++ [p])]
    congr 2
    refine List.map_congr_left fun i _ => ?_
    show stepT (T ++ (p :: ps).take (i + 1)) ((p :: ps).getD (i + 1) 0) = stepT (T ++ [p] ++ ps.take i) (ps.getD i 0)
    rw [List.take_succ_cons, List.getD_cons_succ, List.append_assoc]
    rfl
theorem steps_prod (xs : List (Int × Int)) (ps : List Int) : prodF (stepsF xs ps) = prodS (xs.map Prod.fst) ps := prodF_steps ps _
theorem prod_perm {xs : List (Int × Int)} {ps qs : List Int} (h : ps.Perm qs) (n : ps.Nodup) : prodF (stepsF xs ps) = prodF (stepsF xs qs) := by
  rw [steps_prod, steps_prod, prodS_perm h _ n]
def divS : List Int → List Int → Int → Prop
  | _, [], _ => True
  | T, p :: ps, z => stepT T p ∣ z ∧ divS (T ++ [p]) ps z
theorem divS_congr {z : Int} : ∀ (ps : List Int) {T T' : List Int}, (∀ o, o ∈ T ↔ o ∈ T') → (divS T ps z ↔ divS T' ps z)
  | [], _, _, _ => Iff.rfl
  | p :: ps, T, T', h => by
    show (stepT T p ∣ z ∧ _) ↔ (stepT T' p ∣ z ∧ _)
    rw [stepT_congr h, divS_congr ps (T := T ++ [p]) (T' := T' ++ [p]) fun o => by rw [List.mem_append, List.mem_append, h o]]
theorem stepT_snoc (T : List Int) (p q z : Int) : stepT (T ++ [p]) q ∣ z ↔ stepT T q ∣ z ∧ (q - p) ∣ z := by
  unfold stepT
  rw [lcmF_dvd, lcmF_dvd, List.map_append]
  constructor
  · intro h
    exact ⟨fun f hf => h f (List.mem_append_left _ hf), h _ (List.mem_append_right _ (List.mem_singleton_self _))⟩
  · intro h f hf
    rcases List.mem_append.mp hf with g | g
    · exact h.1 f g
    · rw [List.mem_singleton.mp g]; exact h.2
theorem divS_perm {z : Int} {ps qs : List Int} (h : ps.Perm qs) : ∀ T : List Int, divS T ps z ↔ divS T qs z := by
  induction h with
  | nil => intro T; exact Iff.rfl
  | cons a _ ih => intro T; show (_ ∧ _) ↔ (_ ∧ _); rw [ih]
  | swap a b l =>
    intro T
    show (stepT T b ∣ z ∧ stepT (T ++ [b]) a ∣ z ∧ divS (T ++ [b] ++ [a]) l z) ↔ (stepT T a ∣ z ∧ stepT (T ++ [a]) b ∣ z ∧ divS (T ++ [a] ++ [b]) l z)
    rw [stepT_snoc, stepT_snoc, divS_congr l (T := T ++ [b] ++ [a]) (T' := T ++ [a] ++ [b]) fun o => by simp [or_comm, or_left_comm, or_assoc]]
    have : (a - b) ∣ z ↔ (b - a) ∣ z := by rw [show a - b = -(b - a) by omega, Int.neg_dvd]
    rw [this]
    exact ⟨fun ⟨x, ⟨y, u⟩, v⟩ => ⟨y, ⟨x, u⟩, v⟩, fun ⟨x, ⟨y, u⟩, v⟩ => ⟨y, ⟨x, u⟩, v⟩⟩
  | trans _ _ ih1 ih2 => intro T; exact (ih1 T).trans (ih2 T)
theorem divS_iff {z : Int} : ∀ (ps T : List Int), divS T ps z ↔ ∀ s ∈ (List.range ps.length).map fun i => stepT (T ++ ps.take i) (ps.getD i 0), s ∣ z
  | [], _ => by simp [divS]
  | p :: ps, T => by
    rw [List.length_cons, List.range_succ_eq_map, List.map_cons, List.map_map, List.forall_mem_cons]
    show (stepT T p ∣ z ∧ divS (T ++ [p]) ps z) ↔ (stepT (T ++ []) p ∣ z ∧ _)
    rw [List.append_nil, divS_iff ps (T ++ [p])]
    have e : ((List.range ps.length).map ((fun i => stepT (T ++ (p :: ps).take i) ((p :: ps).getD i 0)) ∘ Nat.succ)) = (List.range ps.length).map fun i => stepT (T ++ [p] ++ ps.take i) (ps.getD i 0) := List.map_congr_left fun i _ => by
      show stepT (T ++ (p :: ps).take (i + 1)) ((p :: ps).getD (i + 1) 0) = stepT (T ++ [p] ++ ps.take i) (ps.getD i 0)
      rw [List.take_succ_cons, List.getD_cons_succ, List.append_assoc]
      rfl
    rw [e]
theorem lcm_steps_perm {xs : List (Int × Int)} {ps qs : List Int} (h : ps.Perm qs) : lcmF (stepsF xs ps) = lcmF (stepsF xs qs) := lcmF_uniq (lcmF_nn _) fun z => by
  rw [lcmF_dvd]
  exact ((divS_iff ps (xs.map Prod.fst)).symm.trans (divS_perm h _)).trans (divS_iff qs (xs.map Prod.fst))
theorem cnt_prod {W : Int} (hW : 0 < W) : ∀ ss : List Int, (∀ s ∈ ss, 0 < s ∧ s ∣ W) → cntF ss W * prodF ss = W ^ ss.length
  | [], _ => by rw [List.length_nil, Int.pow_zero]; rfl
  | s :: ss, h => by
    have ih := cnt_prod hW ss fun t ht => h t (List.mem_cons_of_mem _ ht)
    obtain ⟨s0, c, hc⟩ := h s List.mem_cons_self
    have e : W / s = c := Int.ediv_eq_of_eq_mul_right (by omega) hc
    rw [cntF_cons, prodF_cons, List.length_cons, Int.pow_succ, ← ih, e]
    generalize cntF ss W = x
    generalize prodF ss = y
    rw [hc]
    ac_rfl
theorem prodF_pos : ∀ {ss : List Int}, (∀ s ∈ ss, 0 < s) → 0 < prodF ss
  | [], _ => by decide
  | s :: ss, h => by rw [prodF_cons]; exact Int.mul_pos (h s List.mem_cons_self) (prodF_pos fun t ht => h t (List.mem_cons_of_mem _ ht))
theorem cnt_perm {xs : List (Int × Int)} {ps qs : List Int} {W : Int} (h : ps.Perm qs) (n : ps.Nodup) (O : Opn xs ps W) (O' : Opn xs qs W) : cntF (stepsF xs ps) W = cntF (stepsF xs qs) W := by
  have fs : ∀ {ps : List Int}, Opn xs ps W → ∀ s ∈ stepsF xs ps, 0 < s ∧ s ∣ W := fun O s hs => by
    obtain ⟨i, hi, rfl⟩ := steps_mem hs
    exact ⟨O.step_pos hi, O.dv i hi⟩
  have a := cnt_prod O.pos _ (fs O)
  have b := cnt_prod O.pos _ (fs O')
  rw [steps_len] at a b
  rw [← h.length_eq, ← prod_perm h n, ← a] at b
  exact (Int.eq_of_mul_eq_mul_right (Int.ne_of_gt (prodF_pos fun s hs => (fs O s hs).1)) b).symm
end PW
/-! MPer2 -/
namespace PW
/-- the values with some indices -/
def pick (ns : List Nat) (l : List Int) : List Int := ns.map fun k => l.getD k 0
theorem range_getD (l : List Int) : (List.range l.length).map (fun k => l.getD k 0) = l := by
  refine List.ext_getElem (by simp) fun i h1 h2 => ?_
  rw [List.getElem_map, List.getElem_range, List.getD_eq_getElem?_getD, List.getElem?_eq_getElem h2]
  rfl
theorem pick_len (ns : List Nat) (l : List Int) : (pick ns l).length = ns.length := List.length_map ..
theorem pick_perm {ns : List Nat} {l : List Int} (h : ns.Perm (List.range l.length)) : (pick ns l).Perm l := by
  have := h.map fun k => l.getD k 0
  rwa [range_getD] at this
theorem zip_eq {a b : List Int} (h : a.length = b.length) : a.zip b = (List.range a.length).map fun k => (a.getD k 0, b.getD k 0) := by
  have e1 := range_getD a
  have e2 := range_getD b
  rw [← h] at e2
  conv => lhs; rw [← e1, ← e2]
  rw [List.zip_map']
theorem zip_pick {ns : List Nat} {a b : List Int} (h : a.length = b.length) (hp : ns.Perm (List.range a.length)) : ((pick ns a).zip (pick ns b)).Perm (a.zip b) := by
  unfold pick
  rw [List.zip_map', zip_eq h]
  exact hp.map _
section
variable {xs : List (Int × Int)} {ps : List Int} {size : Int}
theorem fits_pick {ns : List Nat} {vs : List Int} (h : ps.length = vs.length) (hp : ns.Perm (List.range ps.length)) : Fits (xs ++ (pick ns ps).zip (pick ns vs)) ↔ Fits (xs ++ ps.zip vs) := by
  have m : ∀ x, x ∈ xs ++ (pick ns ps).zip (pick ns vs) ↔ x ∈ xs ++ ps.zip vs := fun x => by rw [List.mem_append, List.mem_append, (zip_pick h hp).mem_iff]
  exact ⟨fun f x hx y hy => f x ((m x).mpr hx) y ((m y).mpr hy), fun f x hx y hy => f x ((m x).mp hx) y ((m y).mp hy)⟩
theorem Good.pick {ns : List Nat} {vs : List Int} (G : Good xs ps size vs) (h : ps.length = vs.length) (hp : ns.Perm (List.range ps.length)) : Good xs (pick ns ps) size (pick ns vs) :=
  ⟨by rw [pick_len, pick_len]; exact Nat.le_refl _, (fits_pick h hp).mpr G.fit, fun v hv => G.rng v ((pick_perm (by rw [← h]; exact hp)).mem_iff.mp hv)⟩
theorem fill_idx (O : Opn xs ps size) {vs : List Int} (G : Good xs ps size vs) : ∀ i, i ≤ vs.length → fillF xs ps size i (idxTo xs ps size vs i) = vs.take i
  | 0, _ => by rw [List.take_zero]; rfl
  | i + 1, h => by
    have ih := fill_idx O G i (by omega)
    obtain ⟨r, ⟨r0, r1⟩, er⟩ := G.digit O (show i < vs.length by omega)
    have hi : i < ps.length := by have := G.len; omega
    have sp := O.step_pos hi
    have e : idxTo xs ps size vs (i + 1) = idxTo xs ps size vs i * (size / stepF xs ps i) + r := by
      show _ + (vs.getD i 0 - _) / _ = _
      rw [er, show ∀ a b : Int, a + b - a = b by intros; omega, Int.mul_ediv_cancel_left _ (by omega)]
    rw [e]
    show fillF xs ps size i _ ++ [_] = _
    have d : (idxTo xs ps size vs i * (size / stepF xs ps i) + r) / (size / stepF xs ps i) = idxTo xs ps size vs i := by
      rw [Int.add_comm, Int.add_mul_ediv_right _ _ (by omega), Int.ediv_eq_zero_of_lt r0 r1, Int.zero_add]
    have m : (idxTo xs ps size vs i * (size / stepF xs ps i) + r) % (size / stepF xs ps i) = r := by
      rw [Int.add_comm, Int.add_mul_emod_self_right, Int.emod_eq_of_lt r0 r1]
    rw [d, m, ih, ← er, List.take_add_one, List.getD_eq_getElem?_getD, List.getElem?_eq_getElem (show i < vs.length by omega)]
    rfl
theorem idx_lt (O : Opn xs ps size) {vs : List Int} (G : Good xs ps size vs) : ∀ i, i ≤ vs.length → 0 ≤ idxTo xs ps size vs i ∧ (idxTo xs ps size vs i + 1) * latF xs ps size i ≤ latF xs ps size 0
  | 0, _ => ⟨Int.le_refl _, by show (0 + 1) * _ ≤ _; rw [Int.zero_add, Int.one_mul]; exact Int.le_refl _⟩
  | i + 1, h => by
    obtain ⟨a, b⟩ := idx_lt O G i (by omega)
    obtain ⟨r, ⟨r0, r1⟩, er⟩ := G.digit O (show i < vs.length by omega)
    have hi : i < ps.length := by have := G.len; omega
    have sp := O.step_pos hi
    have lp := O.lat_pos (i + 1)
    have e : idxTo xs ps size vs (i + 1) = idxTo xs ps size vs i * (size / stepF xs ps i) + r := by
      show _ + (vs.getD i 0 - _) / _ = _
      rw [er, show ∀ a b : Int, a + b - a = b by intros; omega, Int.mul_ediv_cancel_left _ (by omega)]
    rw [latF_step hi] at b
    rw [e]
    generalize idxTo xs ps size vs i = t at *
    generalize size / stepF xs ps i = n at *
    have c : 0 ≤ t * n := Int.mul_nonneg a (by omega)
    refine ⟨by omega, Int.le_trans (Int.mul_le_mul_of_nonneg_right (c := latF xs ps size (i + 1)) (show t * n + r + 1 ≤ (t + 1) * n by rw [Int.add_mul, Int.one_mul]; omega) (by omega)) ?_⟩
    rw [Int.mul_assoc]
    exact b
theorem idx_full (O : Opn xs ps size) {vs : List Int} (G : Good xs ps size vs) (h : vs.length = ps.length) : 0 ≤ idxTo xs ps size vs ps.length ∧ idxTo xs ps size vs ps.length < cntF (stepsF xs ps) size ∧ fillF xs ps size ps.length (idxTo xs ps size vs ps.length) = vs := by
  obtain ⟨a, b⟩ := idx_lt O G ps.length (by omega)
  have c := fill_idx O G ps.length (by omega)
  rw [List.take_of_length_le (by omega)] at c
  have e : latF xs ps size ps.length = 1 := latF_end
  rw [e, Int.mul_one, latF_zero] at b
  exact ⟨a, by omega, c⟩
end
theorem sum_permI {l m : List Int} (h : l.Perm m) : l.sum = m.sum := by
  induction h with
  | nil => rfl
  | cons a _ ih => rw [List.sum_cons, List.sum_cons, ih]
  | swap a b l => rw [List.sum_cons, List.sum_cons, List.sum_cons, List.sum_cons]; omega
  | trans _ _ i j => exact i.trans j
theorem dot_idx (ws us : List Int) : ∀ n : Nat, dotI (fun i => ws.getD i 0) (fun i => us.getD i 0) n = ((List.range n).map fun k => ws.getD k 0 * us.getD k 0).sum
  | 0 => rfl
  | n + 1 => by
    rw [List.range_succ, List.map_append, List.sum_append]
    show dotI _ _ n + _ = _
    rw [dot_idx ws us n]
    simp
theorem dot_pick {ns : List Nat} {ws us : List Int} (h : ws.length = us.length) (hp : ns.Perm (List.range us.length)) : dotF (pick ns ws) (pick ns us) = dotF ws us := by
  unfold dotF
  rw [dot_idx, dot_idx, pick_len]
  have key : (List.range ns.length).map (fun k => (pick ns ws).getD k 0 * (pick ns us).getD k 0) = ns.map fun k => ws.getD k 0 * us.getD k 0 := by
    refine List.ext_getElem (by simp) fun i h1 h2 => ?_
    rw [List.length_map] at h2
    rw [List.getElem_map, List.getElem_map, List.getElem_range]
    have g : ∀ l : List Int, (pick ns l).getD i 0 = l.getD ns[i] 0 := fun l => by
      unfold pick
      rw [List.getD_eq_getElem?_getD, List.getElem?_map, List.getElem?_eq_getElem h2]
      rfl
    rw [g, g]
  rw [key]
  exact sum_permI (hp.map _)
/-- any list is picked of one -/
theorem unpick {ns : List Nat} {n : Nat} (hp : ns.Perm (List.range n)) {u : List Int} (hu : u.length = n) : ∃ v : List Int, v.length = n ∧ pick ns v = u := by
  have nd : ns.Nodup := hp.nodup_iff.mpr List.nodup_range
  have hl : ns.length = n := by rw [hp.length_eq, List.length_range]
  refine ⟨(List.range n).map fun i => u.getD (ns.idxOf i) 0, by rw [List.length_map, List.length_range], ?_⟩
  refine List.ext_getElem? fun i => ?_
  unfold pick
  rw [List.getElem?_map]
  by_cases hi : i < ns.length
  · have hn : ns[i] < n := List.mem_range.mp (hp.mem_iff.mp (List.getElem_mem hi))
    rw [List.getElem?_eq_getElem hi, List.getElem?_eq_getElem (show i < u.length by omega)]
    show some (((List.range n).map fun i => u.getD (ns.idxOf i) 0).getD ns[i] 0) = some u[i]
    rw [List.getD_eq_getElem?_getD, List.getElem?_map, List.getElem?_range hn]
    show some (u.getD (ns.idxOf ns[i]) 0) = some u[i]
    rw [nd.idxOf_getElem i hi, List.getD_eq_getElem?_getD, List.getElem?_eq_getElem (show i < u.length by omega)]
    rfl
  · rw [List.getElem?_eq_none (by omega), List.getElem?_eq_none (by omega)]
    rfl
theorem sums_pick {xs : List (Int × Int)} {ps ws : List Int} {ns : List Nat} (hw : ws.length = ps.length) (hp : ns.Perm (List.range ps.length)) (z : Int) :
    (∃ u : List Int, u.length = (pick ns ps).length ∧ Fits (xs ++ (pick ns ps).zip u) ∧ dotF (pick ns ws) u = z) ↔ ∃ u : List Int, u.length = ps.length ∧ Fits (xs ++ ps.zip u) ∧ dotF ws u = z := by
  have hl : ns.length = ps.length := by rw [hp.length_eq, List.length_range]
  constructor
  · rintro ⟨u, h1, h2, h3⟩
    rw [pick_len, hl] at h1
    obtain ⟨v, v1, rfl⟩ := unpick hp h1
    exact ⟨v, v1, (fits_pick v1.symm hp).mp h2, by rw [← h3, dot_pick (by omega) (by rw [v1]; exact hp)]⟩
  · rintro ⟨u, h1, h2, h3⟩
    exact ⟨pick ns u, by rw [pick_len, pick_len], (fits_pick h1.symm hp).mpr h2, by rw [← h3, dot_pick (by omega) (by rw [h1]; exact hp)]⟩
theorem far_dvd {xs : List (Int × Int)} {ps : List Int} {W : Int} (O : Opn xs ps W) {i : Nat} (hi : i < ps.length) : (∀ x ∈ xs, (ps.getD i 0 - x.1) ∣ W) ∧ ∀ j, j < ps.length → j ≠ i → (ps.getD i 0 - ps.getD j 0) ∣ W := by
  have mem : ∀ {i j : Nat}, i < ps.length → j < i → ps.getD j 0 ∈ ps.take i := fun {i j} hi hj => by
    rw [List.getD_eq_getElem?_getD, List.getElem?_eq_getElem (show j < ps.length by omega)]
    exact List.mem_take_iff_getElem.mpr ⟨j, by omega, rfl⟩
  have key : ∀ {i : Nat}, i < ps.length → ∀ o ∈ othF xs ps i, (ps.getD i 0 - o) ∣ W := fun {i} hi o ho => Int.dvd_trans ((lcmF_dvd _ _).mp (Int.dvd_refl (stepF xs ps i)) _ (List.mem_map.mpr ⟨o, ho, rfl⟩)) (O.dv i hi)
  refine ⟨fun x hx => key hi _ (List.mem_append_left _ (List.mem_map.mpr ⟨x, hx, rfl⟩)), fun j hj ne => ?_⟩
  rcases Nat.lt_or_gt_of_ne ne with h | h
  · exact key hi _ (List.mem_append_right _ (mem hi h))
  · have := key hj _ (List.mem_append_right _ (mem hj h))
    rw [show ps.getD i 0 - ps.getD j 0 = -(ps.getD j 0 - ps.getD i 0) by omega]
    exact Int.neg_dvd.mpr this
def mixL (W : Int) (vs a c : List Int) : List Int := (List.range vs.length).map fun i => (vs.getD i 0 + 2 * a.getD i 0 - c.getD i 0) % W
theorem mixL_len (W : Int) (vs a c : List Int) : (mixL W vs a c).length = vs.length := by unfold mixL; rw [List.length_map, List.length_range]
theorem mix_good {xs : List (Int × Int)} {ps vs a c : List Int} {W : Int} (O : Opn xs ps W) (G : Good xs ps W vs) (hv : vs.length = ps.length) (ha : a.length = ps.length) (hc : c.length = ps.length) (fa : Fits (zerB xs ++ ps.zip a)) (fc : Fits (zerB xs ++ ps.zip c)) : Good xs ps W (mixL W vs a c) := by
  have W0 := O.pos
  have ml := mixL_len W vs a c
  have fv := (fits_iff O.fit (by omega)).mp G.fit
  have fa := (fits_iff (zerB_fits xs) (by omega)).mp fa
  have fc := (fits_iff (zerB_fits xs) (by omega)).mp fc
  rw [hv] at fv; rw [ha] at fa; rw [hc] at fc
  refine ⟨by omega, (fits_iff O.fit (by omega)).mpr ?_, fun v hv => ?_⟩
  · rw [ml, hv]
    have s := fv.add (fa.lin fc 2 (-1))
    have q : FitsI (zerB xs) (fun i => ps.getD i 0) ps.length (fun i => W * -((vs.getD i 0 + (2 * a.getD i 0 + -1 * c.getD i 0)) / W)) := fun i hi => by
      obtain ⟨f1, f2⟩ := far_dvd O hi
      refine ⟨fun x hx => ?_, fun j hj => ?_⟩
      · obtain ⟨x0, xm⟩ := zerB_mem hx
        obtain ⟨y, hy, e⟩ := List.mem_map.mp xm
        rw [x0, Int.sub_zero, ← e]
        exact Int.dvd_trans (f1 y hy) (Int.dvd_mul_right _ _)
      · by_cases e : j = i
        · subst e
          rw [Int.sub_self, Int.sub_self]
          exact Int.dvd_refl _
        · have := f2 j hj e
          exact Int.dvd_sub (Int.dvd_trans this (Int.dvd_mul_right _ _)) (Int.dvd_trans this (Int.dvd_mul_right _ _))
    refine (s.add q).congr fun i hi => ?_
    show (mixL W vs a c).getD i 0 = _
    unfold mixL
    rw [List.getD_eq_getElem?_getD, List.getElem?_map, List.getElem?_range (by omega)]
    show (vs.getD i 0 + 2 * a.getD i 0 - c.getD i 0) % W = _
    have e := Int.emod_add_mul_ediv (vs.getD i 0 + 2 * a.getD i 0 - c.getD i 0) W
    show _ = vs.getD i 0 + (2 * a.getD i 0 + -1 * c.getD i 0) + W * -((vs.getD i 0 + (2 * a.getD i 0 + -1 * c.getD i 0)) / W)
    rw [show vs.getD i 0 + (2 * a.getD i 0 + -1 * c.getD i 0) = vs.getD i 0 + 2 * a.getD i 0 - c.getD i 0 by omega, Int.mul_neg]
    omega
  · unfold mixL at hv
    obtain ⟨i, _, rfl⟩ := List.mem_map.mp hv
    exact ⟨Int.emod_nonneg _ (by omega), Int.emod_lt_of_pos _ W0⟩
end PW
/-! MPer3 -/
namespace PW
theorem pow_mono {a b : Int} (h0 : 0 ≤ a) (h : a ≤ b) : ∀ n : Nat, 0 ≤ a ^ n ∧ a ^ n ≤ b ^ n
  | 0 => by rw [Int.pow_zero, Int.pow_zero]; exact ⟨by decide, Int.le_refl _⟩
  | n + 1 => by
    obtain ⟨x, y⟩ := pow_mono h0 h n
    rw [Int.pow_succ, Int.pow_succ]
    exact ⟨Int.mul_nonneg x h0, Int.mul_le_mul y h h0 (Int.le_trans x y)⟩
theorem dvd_prodF : ∀ {ss : List Int} {s : Int}, s ∈ ss → s ∣ prodF ss
  | t :: ss, s, h => by
    rw [prodF_cons]
    rcases List.mem_cons.mp h with rfl | h
    · exact Int.dvd_mul_right _ _
    · exact Int.dvd_trans (dvd_prodF h) (Int.dvd_mul_left _ _)
section
variable {xs : List (Int × Int)} {ps : List Int}
theorem cnt_le_pow (O : Opn xs ps (lcmF (stepsF xs ps))) {m : Nat} (hn : ps.length = m + 1) : cntF (stepsF xs ps) (lcmF (stepsF xs ps)) ≤ prodF (stepsF xs ps) ^ m := by
  have fs : ∀ s ∈ stepsF xs ps, 0 < s ∧ s ∣ lcmF (stepsF xs ps) := fun s hs => by
    obtain ⟨i, hi, rfl⟩ := steps_mem hs
    exact ⟨O.step_pos hi, O.dv i hi⟩
  have P0 := prodF_pos fun s hs => (fs s hs).1
  have a := cnt_prod O.pos _ fs
  have W1 : lcmF (stepsF xs ps) ≤ prodF (stepsF xs ps) := Int.le_of_dvd P0 ((lcmF_dvd _ _).mpr fun s hs => dvd_prodF hs)
  have b := (pow_mono (Int.le_of_lt O.pos) W1 (stepsF xs ps).length).2
  rw [← a, steps_len, hn, Int.pow_succ] at b
  exact Int.le_of_mul_le_mul_right b P0
theorem step_bd98 {B : Nat} (hB : 2 * B ≤ 2 ^ 98) (hx : ∀ x ∈ xs, x.1.natAbs ≤ B) (hp : ∀ p ∈ ps, p.natAbs ≤ B) {i : Nat} (hi : i < ps.length) : (stepF xs ps i).natAbs ≤ 2 ^ (98 * (xs.length + i)) := by
  have gi : ps.getD i 0 = ps[i] := by rw [List.getD_eq_getElem?_getD, List.getElem?_eq_getElem hi]; rfl
  have ln : ((othF xs ps i).map fun o => ps.getD i 0 - o).length = xs.length + i := by
    unfold othF
    rw [List.length_map, List.length_append, List.length_map, List.length_take]
    omega
  have := lcmF_bd (B := 98) (ns := (othF xs ps i).map fun o => ps.getD i 0 - o) fun n hn => by
    obtain ⟨o, ho, rfl⟩ := List.mem_map.mp hn
    have h1 := hp _ (List.getElem_mem hi)
    have h2 : o.natAbs ≤ B := by
      rcases List.mem_append.mp ho with h | h
      · obtain ⟨x, hx', rfl⟩ := List.mem_map.mp h
        exact hx x hx'
      · exact hp o (List.mem_of_mem_take h)
    rw [gi]
    omega
  rwa [ln] at this
def sumE (k : Nat) : Nat → Nat
  | 0 => 0
  | n + 1 => sumE k n + 98 * (k + n)
theorem prod_bd {s : Nat → Int} {k : Nat} : ∀ n : Nat, (∀ i, i < n → (s i).natAbs ≤ 2 ^ (98 * (k + i))) → (prodF ((List.range n).map s)).natAbs ≤ 2 ^ sumE k n
  | 0, _ => by show (1 : Int).natAbs ≤ 1; decide
  | n + 1, h => by
    rw [List.range_succ, List.map_append, List.map_singleton, prodF_snoc, Int.natAbs_mul]
    show _ ≤ 2 ^ (sumE k n + 98 * (k + n))
    rw [Nat.pow_add]
    exact Nat.mul_le_mul (prod_bd n fun i hi => h i (by omega)) (h n (by omega))
theorem cnt_bd {B : Nat} (O : Opn xs ps (lcmF (stepsF xs ps))) (hB : 2 * B ≤ 2 ^ 98) (hx : ∀ x ∈ xs, x.1.natAbs ≤ B) (hp : ∀ p ∈ ps, p.natAbs ≤ B) (x6 : xs.length ≤ 6) (p1 : 1 ≤ ps.length) (p4 : ps.length ≤ 4) : cntF (stepsF xs ps) (lcmF (stepsF xs ps)) ≤ 2 ^ 8820 := by
  obtain ⟨m, hm⟩ : ∃ m, ps.length = m + 1 := ⟨ps.length - 1, by omega⟩
  have a := cnt_le_pow O hm
  have pb := prod_bd (s := stepF xs ps) (k := xs.length) ps.length fun i hi => step_bd98 hB hx hp hi
  have P0 : 0 < prodF (stepsF xs ps) := prodF_pos fun s hs => by
    obtain ⟨i, hi, rfl⟩ := steps_mem hs
    exact O.step_pos hi
  have e : prodF (stepsF xs ps) ≤ ((2 ^ sumE xs.length ps.length : Nat) : Int) := by
    have : ((prodF (stepsF xs ps)).natAbs : Int) ≤ ((2 ^ sumE xs.length ps.length : Nat) : Int) := Int.ofNat_le.mpr pb
    have := Int.le_natAbs (a := prodF (stepsF xs ps))
    exact Int.le_trans this (by assumption)
  have b := (pow_mono (Int.le_of_lt P0) e m).2
  have c : (((2 ^ sumE xs.length ps.length : Nat) : Int)) ^ m ≤ 2 ^ 8820 := by
    rw [← Int.natCast_pow, ← Nat.pow_mul]
    have : sumE xs.length ps.length * m ≤ 8820 := by
      have hm4 : m = 0 ∨ m = 1 ∨ m = 2 ∨ m = 3 := by omega
      rcases hm4 with rfl | rfl | rfl | rfl <;> rw [hm] <;> simp only [sumE] <;> omega
    have h2 := Nat.pow_le_pow_right (show 0 < 2 by decide) this
    have h3 : ((2 ^ (sumE xs.length ps.length * m) : Nat) : Int) ≤ ((2 ^ 8820 : Nat) : Int) := Int.ofNat_le.mpr h2
    rwa [Int.natCast_pow 2 8820] at h3
  exact Int.le_trans a (Int.le_trans b c)
theorem lat_leP {size : Int} (O : Opn xs ps size) : ∀ i, i ≤ ps.length → latF xs ps size i ≤ latF xs ps size 0
  | 0, _ => Int.le_refl _
  | i + 1, h => by
    have a := lat_leP O i (by omega)
    rw [latF_step (by omega)] at a
    have b := O.lat_pos (i + 1)
    have c := O.n_pos (show i < ps.length by omega)
    have : 1 * latF xs ps size (i + 1) ≤ size / stepF xs ps i * latF xs ps size (i + 1) := Int.mul_le_mul_of_nonneg_right (by omega) (by omega)
    omega
end
end PW
/-! PWW -/
open PySem PyProof.Rows
namespace PW
open PySem L2 PyProof.Rows
/-- the lists at a, b and c as they stand at each turn, the items in new triples -/
def Itz3 (K : PySem.W.Frag) (a b c : Addr) : It :=
  ⟨fun i H => ∃ (xs ys zs : List V) (x y u : V), SqL K H a xs ∧ SqL K H b ys ∧ SqL K H c zs ∧ xs[i]? = some x ∧ ys[i]? = some y ∧ zs[i]? = some u,
    fun i H v H' => ∃ T x y u, v = .ref T ∧ H T = none ∧ H' = upd H T (.tup [x, y, u]) ∧ (∀ xs, SqL K H a xs → xs[i]? = some x) ∧ (∀ ys, SqL K H b ys → ys[i]? = some y) ∧ ∀ zs, SqL K H c zs → zs[i]? = some u,
    fun i H => ∃ xs ys zs : List V, SqL K H a xs ∧ SqL K H b ys ∧ SqL K H c zs ∧ i = min (min xs.length ys.length) zs.length⟩
theorem turn_zip3 {P : Program} {w : World} {K : PySem.W.Frag} {elts : List Expr} {kk : Nat} {tpos : Pos} {a b c z TI TO i1 i2 i3 : Addr} (S : ZipSep3 z TI TO i1 i2 i3 [i1, a] [i2, b] [i3, c]) (na : a ≠ i1) (nb : b ≠ i2) (nc : c ≠ i3) :
    Turn P w K (.Tuple elts kk tpos) (Itz3 K a b c) [z, TI, TO, i1, i2, i3] z (fun i h => IsZip h z TI TO .none ∧ IsTupOf3 h TI (.ref i1) (.ref i2) (.ref i3) ∧ (∃ x y u, IsTupOf3 h TO x y u) ∧ h.IsListIter i1 a i ∧ h.IsListIter i2 b i ∧ h.IsListIter i3 c i) where
  mem := by simp
  obj := fun i h st d hd => by
    obtain ⟨hz, hTI, ⟨x, y, u, hTO⟩, ⟨o1, e1, _, d1⟩, ⟨o2, e2, _, d2⟩, ⟨o3, e3, _, d3⟩⟩ := st
    have e' : d = z ∨ d = TI ∨ d = TO ∨ d = i1 ∨ d = i2 ∨ d = i3 := by simpa using hd
    rcases e' with q | q | q | q | q | q
    · rw [q]; exact ⟨_, hz, fun v q => nomatch q⟩
    · rw [q]; exact ⟨_, hTI, fun v q => nomatch q⟩
    · rw [q]; exact ⟨_, hTO, fun v q => nomatch q⟩
    · rw [q]; exact ⟨o1, e1, fun v q => by rw [d1] at q; cases q⟩
    · rw [q]; exact ⟨o2, e2, fun v q => by rw [d2] at q; cases q⟩
    · rw [q]; exact ⟨o3, e3, fun v q => by rw [d3] at q; cases q⟩
  keep := fun i h h' st k => by
    obtain ⟨hz, hTI, ⟨x, y, u, hTO⟩, h1, h2, h3⟩ := st
    exact ⟨k z (by simp) _ hz, k TI (by simp) _ hTI, ⟨x, y, u, k TO (by simp) _ hTO⟩, h1.at fun o q => k i1 (by simp) o q, h2.at fun o q => k i2 (by simp) o q, h3.at fun o q => k i3 (by simp) o q⟩
  item := by
    intro X hP hw hK hc i pins s σ H E I hf st hg
    subst hP hw hK
    obtain ⟨hz, hTI, ⟨x0, y0, u0, hTO⟩, h1, h2, h3⟩ := st
    obtain ⟨xs, ys, zs, x, y, u, hqx, hqy, hqz, hx, hy, hu⟩ := hg
    obtain ⟨its, rv, p, _⟩ := I.list hqx
    obtain ⟨its2, rv2, p2, _⟩ := I.list hqy
    obtain ⟨its3, rv3, p3, _⟩ := I.list hqz
    obtain ⟨v1, hv1, ru1⟩ := rv.get hx
    obtain ⟨v2, hv2, ru2⟩ := rv2.get hy
    obtain ⟨v3, hv3, ru3⟩ := rv3.get hu
    have hzl : z < s.heap.objs.size := Heap.lt_size hz
    have hh : X.A.in1.handled = none := I.ok.hd hc
    have D1 := Draws.list (prog := X.prog) (w := X.w) (A := X.A.in1) hh i1 a na its.toArray
    have D2 := Draws.list (prog := X.prog) (w := X.w) (A := X.A.in1) hh i2 b nb its2.toArray
    have D3 := Draws.list (prog := X.prog) (w := X.w) (A := X.A.in1) hh i3 c nc its3.toArray
    have l1 : i < its.toArray.size := by have := (List.getElem?_eq_some_iff.mp hv1).1; simpa using this
    have l2 : i < its2.toArray.size := by have := (List.getElem?_eq_some_iff.mp hv2).1; simpa using this
    have l3 : i < its3.toArray.size := by have := (List.getElem?_eq_some_iff.mp hv3).1; simpa using this
    refine wpAny_pyNext_zipD3_item S D1 D2 D3 hz hTI hTO ⟨h1, p.isList⟩ ⟨h2, p2.isList⟩ ⟨h3, p3.isList⟩ l1 l2 l3 fun w1 w2 w3 h' tk e1 e2 e3 z' TO' st1 st2 st3 hT hsz hk => ?_
    have f1 : its[i]? = some w1 := by simpa using e1
    have f2 : its2[i]? = some w2 := by simpa using e2
    have f3 : its3[i]? = some w3 := by simpa using e3
    obtain rfl : v1 = w1 := Option.some.inj (hv1.symm.trans f1)
    obtain rfl : v2 = w2 := Option.some.inj (hv2.symm.trans f2)
    obtain rfl : v3 = w3 := Option.some.inj (hv3.symm.trans f3)
    refine ⟨_, rfl, wpAny_letOwnedTupleGo_zip (s := { s with heap := h', toks := tk }) z' fun h'' z'' sb => ?_⟩
    have hT2 : h''.get? s.heap.objs.size = some { cls := .type "tuple", data := .seq #[v1, v2, v3] } := (sb.2 _ (Nat.ne_of_gt hzl)).trans hT
    have new : ObjOk X.prog X.w (upd H s.heap.objs.size (.tup [x, y, u])) h'' s.heap.objs.size (.tup [x, y, u]) :=
      ⟨by show 3 ≤ sizeLine; decide, [v1, v2, v3], .cons ru1 (.cons ru2 (.cons ru3 .nil)), ⟨_, hT2, rfl, _, rfl⟩⟩
    have I1 : Inv X pins σ (upd H s.heap.objs.size (.tup [x, y, u])) { s with heap := h'', toks := tk } :=
      I.turnedNew (t' := tk) (ch := [z, TI, TO, i1, i2, i3]) (fun c o hb q => (sb.2 c (fun q' => hb (by simp [q']))).trans (hk c o (fun q' => hb (by simp [q'])) (fun q' => hb (by simp [q'])) (fun q' => hb (by simp [q'])) (fun q' => hb (by simp [q'])) (fun q' => hb (by simp [q'])) q)) hf (Nat.le_refl _) new
    refine ⟨.ref s.heap.objs.size, _, I1, rfl, ⟨_, x, y, u, rfl, I.hok.fresh (Nat.le_refl _), rfl, fun l hl => by rw [I.list_inj hl hqx]; exact hx, fun l hl => by rw [I.list_inj hl hqy]; exact hy, fun l hl => by rw [I.list_inj hl hqz]; exact hu⟩, ⟨z'', ?_, ⟨v1, v2, v3, ?_⟩, ?_, ?_, ?_⟩, fun d hdm => ?_⟩
    · exact (sb.2 _ S.TIz).trans (hk _ _ S.TIz S.TITO S.TIi1 S.TIi2 S.TIi3 hTI)
    · exact (sb.2 _ S.TOz).trans TO'
    · exact st1.1.at fun o q => (sb.2 _ S.zi1.symm).trans q
    · exact st2.1.at fun o q => (sb.2 _ S.zi2.symm).trans q
    · exact st3.1.at fun o q => (sb.2 _ S.zi3.symm).trans q
    · have hlt : d < s.heap.objs.size := by
        have e' : d = z ∨ d = TI ∨ d = TO ∨ d = i1 ∨ d = i2 ∨ d = i3 := by simpa using hdm
        rcases e' with q | q | q | q | q | q
        · rw [q]; exact hzl
        · rw [q]; exact Heap.lt_size hTI
        · rw [q]; exact Heap.lt_size hTO
        · rw [q]; obtain ⟨_, e1, _⟩ := h1; exact Heap.lt_size e1
        · rw [q]; obtain ⟨_, e2, _⟩ := h2; exact Heap.lt_size e2
        · rw [q]; obtain ⟨_, e3, _⟩ := h3; exact Heap.lt_size e3
      rw [upd_ne (Nat.ne_of_lt hlt)]
      exact (hf d hdm).1
  done := by
    intro X hP hw hK hc i pins s σ H E I hf st hg
    subst hP hw hK
    obtain ⟨hz, hTI, ⟨x0, y0, u0, hTO⟩, h1, h2, h3⟩ := st
    obtain ⟨xs, ys, zs, hqx, hqy, hqz, hend⟩ := hg
    obtain ⟨its, rv, p, _⟩ := I.list hqx
    obtain ⟨its2, rv2, p2, _⟩ := I.list hqy
    obtain ⟨its3, rv3, p3, _⟩ := I.list hqz
    have hh : X.A.in1.handled = none := I.ok.hd hc
    have D1 := Draws.list (prog := X.prog) (w := X.w) (A := X.A.in1) hh i1 a na its.toArray
    have D2 := Draws.list (prog := X.prog) (w := X.w) (A := X.A.in1) hh i2 b nb its2.toArray
    have D3 := Draws.list (prog := X.prog) (w := X.w) (A := X.A.in1) hh i3 c nc its3.toArray
    have l1 := rv.length
    have l2 := rv2.length
    have l3 := rv3.length
    have m1 : its.toArray.size = its.length := by simp
    have m2 : its2.toArray.size = its2.length := by simp
    have m3 : its3.toArray.size = its3.length := by simp
    exact wpAny_pyNext_zipD3_end S D1 D2 D3 hz hTI hTO ⟨h1, p.isList⟩ ⟨h2, p2.isList⟩ ⟨h3, p3.isList⟩ (by omega) (by omega) (by omega) (by omega) fun h' tk hk => ⟨rfl, I.turnedL (t' := tk) (ch := [z, TI, TO, i1, i2, i3]) (fun c o hb q =>
      hk c o (fun q' => hb (by simp [q'])) (fun q' => hb (by simp [q'])) (fun q' => hb (by simp [q'])) (fun q' => hb (by simp [q'])) (fun q' => hb (by simp [q'])) q) hf⟩
  self := fun A i s Q E st h => wpAny_pyIter_zip st.1 h
def iZip3 (K : PySem.W.Frag) (ta : TA) : TI := fun σ H R => ta σ H fun vs H1 => ∃ a b c xs ys zs, vs = [.ref a, .ref b, .ref c] ∧ SqL K H1 a xs ∧ SqL K H1 b ys ∧ SqL K H1 c zs ∧ R (Itz3 K a b c) H1
theorem pi_zip3 {X : Cx} {e e2 e3 : Expr} {ta : TA} {p pos tpos : Pos} {elts : List Expr} {kk : Nat} (hg : Gl X "zip") (hm : X.mg "zip" = none) (ha : PA X [e, e2, e3] ta)
    (hs : starEach [e, e2, e3] X.env = (false, eval e X.env) :: starEach [e2, e3] X.env := by rfl) (hpl : (backTo pos (starEach [e2, e3] X.env)).any (·.1) = false := by rfl) :
    PI X (.Tuple elts kk tpos) (.Call (.Name "zip" p) [e, e2, e3] [] pos) (iZip3 X.K ta) := by
  refine ⟨fun pins s σ H R I h => ?_⟩
  refine Call_ (ld_blt I hg hm PyProof.Rows.boot_zip (PyProof.Rows.callWith_type1 (thn (ha.run pos pins s σ H _ I h) fun us s1 ⟨vs, H1, I1, r1, q1⟩ => ?_) hs hpl))
  obtain ⟨a, b, c, xs, ys, zs, ex, hqx, hqy, hqz, q⟩ := q1
  subst ex
  cases r1 with
  | cons r rr =>
    cases rr with
    | cons r' rr =>
      cases rr with
      | cons r'' rr =>
        cases rr
        cases r
        cases r'
        cases r''
        obtain ⟨its, rv, p1, _⟩ := I1.list hqx
        obtain ⟨its2, rv2, p2, _⟩ := I1.list hqy
        obtain ⟨its3, rv3, p3, _⟩ := I1.list hqz
        have la : a < s1.heap.objs.size := p1.lt
        have lb : b < s1.heap.objs.size := p2.lt
        have lc : c < s1.heap.objs.size := p3.lt
        refine zip_begins3 (begins_list a its.toArray) (begins_list b its2.toArray) (begins_list c its3.toArray) p1.isList p2.isList p3.isList fun h' hz hTI hTO g1 g2 g3 hsz hk => wpAny_pyIter_zip hz ?_
        have I2 : Inv X pins σ H1 { s1 with heap := h' } := I1.kept (t' := s1.toks) hk
        have S := zip_sep3 (N := s1.heap.objs.size) (fp1 := [a]) (fp2 := [b]) (fp3 := [c]) (fun d hd => by rw [List.mem_singleton.mp hd]; exact la) (fun d hd => by rw [List.mem_singleton.mp hd]; exact lb) (fun d hd => by rw [List.mem_singleton.mp hd]; exact lc)
        refine ⟨s1.heap.objs.size + 5, [s1.heap.objs.size + 5, s1.heap.objs.size + 3, s1.heap.objs.size + 4, s1.heap.objs.size, s1.heap.objs.size + 1, s1.heap.objs.size + 2], _, _, H1, rfl, I2,
          turn_zip3 S (Nat.ne_of_lt la) (Nat.ne_of_lt (Nat.lt_succ_of_lt lb)) (Nat.ne_of_lt (Nat.lt_succ_of_lt (Nat.lt_succ_of_lt lc))), ⟨hz, hTI, ⟨_, _, _, hTO⟩, ⟨_, g1, rfl, rfl⟩, ⟨_, g2, rfl, rfl⟩, ⟨_, g3, rfl, rfl⟩⟩, fun d hdm => ?_, q⟩
        have e' : d = s1.heap.objs.size + 5 ∨ d = s1.heap.objs.size + 3 ∨ d = s1.heap.objs.size + 4 ∨ d = s1.heap.objs.size ∨ d = s1.heap.objs.size + 1 ∨ d = s1.heap.objs.size + 2 := by simpa using hdm
        have hle : s1.heap.objs.size ≤ d := by
          rcases e' with z | z | z | z | z | z
          · rw [z]; exact Nat.le_add_right _ _
          · rw [z]; exact Nat.le_add_right _ _
          · rw [z]; exact Nat.le_add_right _ _
          · rw [z]; exact Nat.le_refl _
          · rw [z]; exact Nat.le_add_right _ _
          · rw [z]; exact Nat.le_add_right _ _
        exact I1.fpOk hle (I1.hok.fresh hle)
def zip3D (xs ys zs : List D) : List D := (List.range (min (min xs.length ys.length) zs.length)).map fun i => D.tup [xs.getD i .non, ys.getD i .non, zs.getD i .non]
theorem zip3D_len (xs ys zs : List D) : (zip3D xs ys zs).length = min (min xs.length ys.length) zs.length := by simp [zip3D]
theorem zip3D_get {xs ys zs : List D} {i : Nat} {x y z : D} (h : xs[i]? = some x) (g : ys[i]? = some y) (k : zs[i]? = some z) : (zip3D xs ys zs)[i]? = some (.tup [x, y, z]) := by
  have a := (List.getElem?_eq_some_iff.mp h).1
  have b := (List.getElem?_eq_some_iff.mp g).1
  have c := (List.getElem?_eq_some_iff.mp k).1
  unfold zip3D
  rw [List.getElem?_map, List.getElem?_range (by omega)]
  show some (D.tup [xs.getD i .non, ys.getD i .non, zs.getD i .non]) = _
  rw [List.getD_eq_getElem?_getD, List.getD_eq_getElem?_getD, List.getD_eq_getElem?_getD, h, g, k]
  rfl
theorem zip3D_inv {xs ys zs : List D} {i : Nat} {d : D} (h : (zip3D xs ys zs)[i]? = some d) : ∃ x y z, xs[i]? = some x ∧ ys[i]? = some y ∧ zs[i]? = some z ∧ d = .tup [x, y, z] := by
  have hi := (List.getElem?_eq_some_iff.mp h).1
  rw [zip3D_len] at hi
  have a : xs[i]? = some xs[i] := List.getElem?_eq_getElem (by omega)
  have b : ys[i]? = some ys[i] := List.getElem?_eq_getElem (by omega)
  have c : zs[i]? = some zs[i] := List.getElem?_eq_getElem (by omega)
  rw [zip3D_get a b c] at h
  exact ⟨_, _, _, a, b, c, (Option.some.inj h).symm⟩
section
variable {X : Cx} {P : XP} {F : Hp} {M : Cells} {δ : Slots} {σ : L2.St} {H : Hp} {a b c : Expr} {p pos : Pos}
theorem Stt.triple {K : PySem.W.Frag} (S : Stt K F M δ σ H) {T : Addr} {x y u : V} {d d' d'' : D} (hT : H T = none) (rx : Rep K F x d) (ry : Rep K F y d') (ru : Rep K F u d'') : Same F (upd F T (.tup [x, y, u])) ∧ Stt K (upd F T (.tup [x, y, u])) M δ σ (upd H T (.tup [x, y, u])) ∧ Rep K (upd F T (.tup [x, y, u])) (.ref T) (.tup [d, d', d'']) := by
  obtain ⟨S', s'⟩ := S.froz (o := .tup [x, y, u]) hT
  exact ⟨s', S', .tup (.of upd_same) (.cons (rx.up s') (.cons (ry.up s') (.cons (ru.up s') .nil)))⟩
theorem Reps.thr {K : PySem.W.Frag} {F : Hp} {vs : List V} {d e f : D} (h : Reps K F vs [d, e, f]) : ∃ v w u, vs = [v, w, u] ∧ Rep K F v d ∧ Rep K F w e ∧ Rep K F u f := by
  cases h with
  | cons a b =>
    obtain ⟨w, u, rfl, r1, r2⟩ := b.two
    exact ⟨_, w, u, rfl, a, r1, r2⟩
theorem wi_zip3 {elts : List Expr} {kk : Nat} {tpos : Pos} {R : List D → (Cells → Prop) → Cells → Prop} (hg : Gl X "zip") (hm : X.mg "zip" = none) (h : WA X P [a, b, c] δ M fun ds M1 => ∃ d1 d2 d3 xs ys zs, ds = [d1, d2, d3] ∧ LV M1 d1 xs ∧ LV M1 d2 ys ∧ LV M1 d3 zs ∧ R (zip3D xs ys zs) (fun M' => LV M' d1 xs ∧ LV M' d2 ys ∧ LV M' d3 zs) M1)
    (hs : starEach [a, b, c] X.env = (false, eval a X.env) :: starEach [b, c] X.env := by rfl) (hpl : (backTo pos (starEach [b, c] X.env)).any (·.1) = false := by rfl) : WI X P (.Tuple elts kk tpos) (.Call (.Name "zip" p) [a, b, c] [] pos) δ M R :=
  wi_of (pi_zip3 hg hm pa_sem hs hpl) fun σ H F G => h.go G fun vs H1 F1 M1 ds s1 G1 r1 ⟨d1, d2, d3, xs, ys, zs, ed, hl1, hl2, hl3, q⟩ => by
    subst ed
    obtain ⟨v, v2, v3, rfl, r, r', r''⟩ := r1.thr
    obtain ⟨a, vs, rfl, e1, e2⟩ := G1.st.readL r hl1
    obtain ⟨a', vs', rfl, e1', e2'⟩ := G1.st.readL r' hl2
    obtain ⟨a'', vs'', rfl, e1'', e2''⟩ := G1.st.readL r'' hl3
    refine ⟨a, a', a'', vs, vs', vs'', rfl, e1, e1', e1'', F1, M1, _, _, s1, G1.st, ?_, q⟩
    intro F' M' δ' σ' H' s S hM
    obtain ⟨_, ks, ea, f1, f2⟩ := S.readL (r.up s) hM.1
    cases ea
    obtain ⟨_, ks', ea, f1', f2'⟩ := S.readL (r'.up s) hM.2.1
    cases ea
    obtain ⟨_, ks'', ea, f1'', f2''⟩ := S.readL (r''.up s) hM.2.2
    cases ea
    have l1 := f2.length
    have l2 := f2'.length
    have l3 := f2''.length
    rw [zip3D_len]
    refine ⟨fun i hi => ?_, ?_, fun i x H2 hi y => ?_⟩
    · have i1 : i < ks.length := by omega
      have i2 : i < ks'.length := by omega
      have i3 : i < ks''.length := by omega
      exact ⟨ks, ks', ks'', ks[i], ks'[i], ks''[i], f1, f1', f1'', List.getElem?_eq_getElem i1, List.getElem?_eq_getElem i2, List.getElem?_eq_getElem i3⟩
    · exact ⟨ks, ks', ks'', f1, f1', f1'', by omega⟩
    · obtain ⟨T, x1, x2, x3, rfl, hT, rfl, h1, h2, h3⟩ := y
      obtain ⟨z1, g1, g2⟩ := f2.get' (h1 ks f1)
      obtain ⟨z2, g3, g4⟩ := f2'.get' (h2 ks' f1')
      obtain ⟨z3, g5, g6⟩ := f2''.get' (h3 ks'' f1'')
      obtain ⟨s', S', r'⟩ := S.triple hT g2 g4 g6
      exact ⟨_, _, s', S', zip3D_get g1 g3 g5, r'⟩
theorem we_listRg1C {p1 pos' : Pos} {Q : D → Cells → Prop} (N : Nice X) (hl : Gl X "list") (hlm : X.mg "list" = none) (hg : Gl X "range") (hm : X.mg "range" = none)
    (h : WE X P a δ M fun d M1 => ∃ j : Int, d = .int j ∧ RgOk 0 j ∧ ∀ q, Q (.cel q) ((q, .lst (rangeD 0 j.toNat)) :: M1))
    (na : starEach [a] X.env = (false, eval a X.env) :: starEach [] X.env := by rfl)
    (nc : starEach [Expr.Call (.Name "range" p) [a] [] pos] X.env = (false, eval (Expr.Call (.Name "range" p) [a] [] pos) X.env) :: starEach [] X.env := by rfl) :
    WE X P (.Call (.Name "list" p1) [.Call (.Name "range" p) [a] [] pos] [] pos') δ M Q :=
  we_of (pe_listRg N.calm hl hlm (prg_1 hg hm pe_sem na) nc) fun σ H F G => h.go G fun v H1 F1 M1 d s1 G1 r1 q1 => by
    obtain ⟨j, rfl, ok, q1⟩ := q1
    cases r1
    refine ⟨j, rfl, ok, fun q hq => ?_⟩
    have r := reps_rg (K := X.K) (F := F1) 0 j
    rw [show (j - 0).toNat = j.toNat by rw [Int.sub_zero]] at r
    exact ret (G1.st.newL hq r) s1 (.cel q) (q1 q)
theorem we_leltW {Q : D → Cells → Prop} (h : WE X P a δ M fun d M1 => WE X P b δ M1 fun e M2 => ∃ i j, d = .int i ∧ e = .int j ∧ if decide (i ≤ j) = true then WE X P c δ M2 fun f M3 => ∃ l, f = .int l ∧ Q (.bl (decide (j < l))) M3 else Q (.bl false) M2)
    (hm : lastMarks [.LtE, .Lt] [b, c] = false := by with_unfolding_all rfl) : WE X P (.Compare a [.LtE, .Lt] [b, c] pos) δ M Q :=
  we_chain op_le op_lt lift_B0 lift_B0 (h.imp fun d M1 q => q.imp fun e M2 ⟨i, j, h1, h2, q⟩ => ⟨i, j, h1, h2, _, rfl, by
    split at q
    · rename_i hc; rw [if_pos hc]; exact q.imp fun f M3 ⟨l, h3, q⟩ => ⟨j, l, h2, h3, q⟩
    · rename_i hc; rw [if_neg hc]; exact q⟩) hm
end
end PW
namespace PW
open PySem L2 PyProof.Rows
local macro_rules
  | `(tactic| walk_at "lk") => `(tactic| first | assumption | exact set_get (by assumption))
  | `(tactic| walk_at "lv") => `(tactic| first | exact LV.l | exact LV.c 0 rfl | exact LV.c 1 rfl | exact LV.c 2 rfl | exact LV.c _ (by walk_at "lk"))
  | `(tactic| walk_at "cl") => `(tactic| first | refine cl_set (by assumption) ?_ | refine cl_0 ?_ | (refine cl_skip ?_; walk_at "cl") | refine cl_k (by assumption) ?_)
  | `(tactic| walk_at "r") => `(tactic| first | assumption | exact room_le (by assumption) (by decide))
  | `(tactic| walk_at "u") => `(tactic| exact Room.units (by assumption))
  | `(tactic| walk_at "eWEConstant") => `(tactic| first
  | ((with_reducible show WE _ _ (Expr.Constant (Const.int _) _ _) _ _ _); refine we_int ?_)
  | ((with_reducible show WE _ _ (Expr.Constant (Const.str _) _ _) _ _ _); refine we_str ?_)
  | ((with_reducible show WE _ _ (Expr.Constant (Const.bool _) _ _) _ _ _); refine we_bl ?_)
  | ((with_reducible show WE _ _ (Expr.Constant Const.none _ _) _ _ _); refine we_non ?_))
  | `(tactic| walk_at "eWECall") => `(tactic| first
  | ((with_reducible refine gC "len" ?_); refine we_len rfl (by assumption) ?_)
  | ((with_reducible refine gC "int" ?_); refine we_int2 rfl (by assumption) ?_)
  | ((with_reducible refine gC "abs" ?_); refine we_abs rfl (by assumption) ?_)
  | ((with_reducible refine gC "max" ?_); refine we_max2 rfl rfl (by assumption) ?_)
  | ((with_reducible refine gC "min" ?_); refine we_min2 rfl rfl (by assumption) ?_)
  | ((with_reducible refine gC "isinstance" ?_); refine we_isi rfl (by assumption) ?_)
  | ((with_reducible refine gC "str" ?_); refine we_str1 rfl (by assumption) ?_)
  | ((with_reducible refine gC "list" ?_); refine we_list rfl (by assumption) ?_)
  | ((with_reducible refine gC "all" ?_); refine we_all rfl rfl (by assumption) ?_)
  | ((with_reducible refine gC "any" ?_); refine we_any rfl rfl (by assumption) ?_)
  | ((with_reducible refine gC "sum" ?_); refine we_sum rfl rfl (by assumption) ?_)
  | ((with_reducible show WE _ _ (Expr.Call (Expr.Name "sorted" _) [Expr.Call (Expr.Name "set" _) _ _ _] _ _) _ _ _); refine we_sortedSet rfl rfl (by assumption) rfl (by assumption) ?_)
  | ((with_reducible show WE _ _ (Expr.Call (Expr.Attribute _ "bit_length" _) _ _ _) _ _ _); refine we_bits ?_)
  | ((with_reducible show WE _ _ (Expr.Call (Expr.Attribute _ "join" _) _ _ _) _ _ _); refine we_join ?_)
  | ((with_reducible show WE _ _ (Expr.Call (Expr.Attribute _ "split" _) _ _ _) _ _ _); refine we_split ?_)
  | ((with_reducible show WE _ _ (Expr.Call (Expr.Attribute _ "append" _) _ _ _) _ _ _); refine we_append ?_)
  | ((with_reducible show WE _ _ (Expr.Call (Expr.Name _ _) _ _ _) _ _ _); walk_at "c"))
  | `(tactic| walk_at "eWECompare") => `(tactic| first
  | ((with_reducible show WE _ _ (Expr.Compare _ [CmpOp.Eq] _ _) _ _ _); refine we_eq (by walk_at "u") ?_)
  | ((with_reducible show WE _ _ (Expr.Compare _ [CmpOp.NotEq] _ _) _ _ _); refine we_ne (by walk_at "u") ?_)
  | ((with_reducible show WE _ _ (Expr.Compare _ [CmpOp.In] _ _) _ _ _); refine we_in ?_)
  | ((with_reducible show WE _ _ (Expr.Compare _ [CmpOp.NotIn] _ _) _ _ _); refine we_notIn ?_)
  | ((with_reducible show WE _ _ (Expr.Compare _ [CmpOp.Lt] _ _) _ _ _); refine we_lt ?_)
  | ((with_reducible show WE _ _ (Expr.Compare _ [CmpOp.LtE] _ _) _ _ _); refine we_le ?_)
  | ((with_reducible show WE _ _ (Expr.Compare _ [CmpOp.Gt] _ _) _ _ _); refine we_gt ?_)
  | ((with_reducible show WE _ _ (Expr.Compare _ [CmpOp.GtE] _ _) _ _ _); refine we_ge ?_)
  | ((with_reducible show WE _ _ (Expr.Compare _ [CmpOp.Is] [Expr.Constant Const.none _ _] _) _ _ _); refine we_isN ?_)
  | ((with_reducible show WE _ _ (Expr.Compare _ [CmpOp.IsNot] [Expr.Constant Const.none _ _] _) _ _ _); refine we_notN ?_)
  | ((with_reducible show WE _ _ (Expr.Compare _ [CmpOp.LtE, CmpOp.LtE] _ _) _ _ _); refine we_lele ?_))
  | `(tactic| walk_at "eWTCompare") => `(tactic| first
  | ((with_reducible show WT _ _ (Expr.Compare _ [CmpOp.In] _ _) _ _ _); refine wt_in ?_)
  | ((with_reducible show WT _ _ (Expr.Compare _ [CmpOp.NotIn] _ _) _ _ _); refine wt_notIn ?_)
  | ((with_reducible show WT _ _ (Expr.Compare _ [CmpOp.LtE, CmpOp.LtE] _ _) _ _ _); refine wt_lele ?_)
  | ((with_reducible show WT _ _ (Expr.Compare _ [CmpOp.LtE, CmpOp.Lt] _ _) _ _ _); refine wt_lelt ?_)
  | ((with_reducible show WT _ _ (Expr.Compare _ [CmpOp.Lt] _ _) _ _ _); refine wt_lt ?_)
  | ((with_reducible show WT _ _ (Expr.Compare _ [CmpOp.LtE] _ _) _ _ _); refine wt_le ?_)
  | ((with_reducible show WT _ _ (Expr.Compare _ [CmpOp.Gt] _ _) _ _ _); refine wt_gt ?_)
  | ((with_reducible show WT _ _ (Expr.Compare _ [CmpOp.GtE] _ _) _ _ _); refine wt_ge ?_)
  | ((with_reducible show WT _ _ (Expr.Compare _ [CmpOp.Eq] _ _) _ _ _); refine wt_eq (by walk_at "u") ?_)
  | ((with_reducible show WT _ _ (Expr.Compare _ [CmpOp.NotEq] _ _) _ _ _); refine wt_ne (by walk_at "u") ?_)
  | ((with_reducible show WT _ _ (Expr.Compare _ [CmpOp.Is] [Expr.Constant Const.none _ _] _) _ _ _); refine wt_isN ?_)
  | ((with_reducible show WT _ _ (Expr.Compare _ [CmpOp.IsNot] [Expr.Constant Const.none _ _] _) _ _ _); refine wt_notN ?_))
  | `(tactic| walk_at "eWK") => `(tactic| first
  | ((with_reducible show WK _ _ [] _ _ _); refine wk_nil ?_)
  | ((with_reducible show WK _ _ (_ :: _) _ _ _); refine wk_cons ?_))
  | `(tactic| walk_at "eWEBinOp") => `(tactic| first
  | ((with_reducible show WE _ _ (Expr.BinOp _ Operator.Sub _ _) _ _ _); refine we_sub ?_)
  | ((with_reducible show WE _ _ (Expr.BinOp _ Operator.Add _ _) _ _ _); refine we_add ?_)
  | ((with_reducible show WE _ _ (Expr.BinOp _ Operator.Mult _ _) _ _ _); refine we_mul ?_)
  | ((with_reducible show WE _ _ (Expr.BinOp _ Operator.Mod _ _) _ _ _); refine we_mod ?_)
  | ((with_reducible show WE _ _ (Expr.BinOp _ Operator.FloorDiv _ _) _ _ _); refine we_fdiv ?_)
  | ((with_reducible show WE _ _ (Expr.BinOp _ Operator.Pow _ _) _ _ _); refine we_pow ?_))
  | `(tactic| walk_at "eWEUnaryOp") => `(tactic| first
  | ((with_reducible show WE _ _ (Expr.UnaryOp UnaryOp.USub _ _) _ _ _); refine we_neg ?_)
  | ((with_reducible show WE _ _ (Expr.UnaryOp UnaryOp.Not _ _) _ _ _); refine we_not ?_))
  | `(tactic| walk_at "eWESubscript") => `(tactic| first
  | ((with_reducible show WE _ _ (Expr.Subscript _ (Expr.Slice _ _ _ _) _) _ _ _); refine we_sl ?_)
  | ((with_reducible refine gESu ?_); refine we_ix ?_ (fun _ _ => rfl)))
  | `(tactic| walk_at "eWW") => `(tactic| first
  | ((with_reducible show WW _ _ (Expr.BoolOp BoolOp.And [_] _) _ _ _); refine ww_and1 ?_)
  | ((with_reducible show WW _ _ (Expr.BoolOp BoolOp.Or [_] _) _ _ _); refine ww_or1 ?_)
  | ((with_reducible show WW _ _ (Expr.BoolOp BoolOp.And _ _) _ _ _); refine ww_and ?_)
  | ((with_reducible show WW _ _ (Expr.BoolOp BoolOp.Or _ _) _ _ _); refine ww_or ?_))
  | `(tactic| walk_at "eWEBoolOp") => `(tactic| first
  | ((with_reducible show WE _ _ (Expr.BoolOp _ [_] _) _ _ _); refine we_one ?_)
  | ((with_reducible show WE _ _ (Expr.BoolOp BoolOp.And _ _) _ _ _); refine we_and ?_)
  | ((with_reducible show WE _ _ (Expr.BoolOp BoolOp.Or _ _) _ _ _); refine we_or ?_))
  | `(tactic| walk_at "eWA") => `(tactic| first
  | ((with_reducible show WA _ _ [] _ _ _); refine wa_nil ?_)
  | ((with_reducible show WA _ _ (_ :: _) _ _ _); refine wa_cons ?_))
  | `(tactic| walk_at "eWO") => `(tactic| first
  | ((with_reducible show WO _ _ none _ _ _); refine wo_none ?_)
  | ((with_reducible show WO _ _ (some _) _ _ _); refine wo_some ?_))
  | `(tactic| walk_at "eEx") => `(tactic| first
  | ((with_reducible show ∃ i j, D.int _ = D.int i ∧ D.int _ = D.int j ∧ _ ∧ _); refine ⟨_, _, rfl, rfl, ?_, ?_⟩)
  | ((with_reducible show ∃ i j, D.int _ = D.int i ∧ D.int _ = D.int j ∧ _); refine ⟨_, _, rfl, rfl, ?_⟩)
  | ((with_reducible show ∃ z, atI _ _ = some z ∧ _); refine ⟨_, rfl, ?_⟩)
  | ((with_reducible show ∃ j, ixN _ _ = some j ∧ _); refine ⟨_, rfl, ?_⟩)
  | ((with_reducible show ∃ q, D.cel _ = D.cel q ∧ (∃ (k : Nat) (ds : List D), _) ∧ _); refine app0_cl (by walk_at "cl"; trivial) ?_)
  | ((with_reducible show ∃ (y : D) (k : Nat) (ds : List D), [_] = [y] ∧ _ ∧ _ ∧ _); refine app_cl ?_)
  | ((with_reducible show ∃ i, D.int _ = D.int i ∧ _); refine ⟨_, rfl, ?_⟩)
  | ((with_reducible show ∃ i, D.bl _ = D.bl i ∧ _); refine ⟨_, rfl, ?_⟩)
  | ((with_reducible show ∃ ds i z, LV _ _ ds ∧ D.int _ = D.int i ∧ _ ∧ _); refine' ⟨_, _, _, ?lv, rfl, ?ixe, ?_⟩; (case lv => walk_at "lv"); (case ixe => rfl))
  | ((with_reducible show ∃ k q ds z j, D.cel _ = D.cel q ∧ _ ∧ D.int _ = D.int z ∧ _ ∧ _); refine wgs_cl ?_)
  | ((with_reducible show ∃ i, [D.int _] = [D.int i] ∧ _); refine ⟨_, rfl, ?_⟩))
  | `(tactic| walk_at "eREq") => `(tactic| first
  | ((with_reducible show REq false (D.int _) (D.int _) _ _); refine req_i ?_)
  | ((with_reducible show REq true (D.int _) (D.int _) _ _); refine req_iN ?_)
  | ((with_reducible show REq false (D.str _) (D.str _) _ _); refine req_s ?_)
  | ((with_reducible show REq true (D.str _) (D.str _) _ _); refine req_sN ?_)
  | ((with_reducible show REq false (D.bl _) (D.bl _) _ _); refine req_b ?_)
  | ((with_reducible show REq true (D.bl _) (D.bl _) _ _); refine req_bN ?_))
  | `(tactic| walk_at "eRIx") => `(tactic| first
  | ((with_reducible show RIx (D.lst _) (D.int _) _ _); refine rix_l ?_)
  | ((with_reducible show RIx (D.cel _) (D.int _) _ _); refine rix_cl ?_)
  | ((with_reducible show RIx (D.tup _) (D.int _) _ _); refine rix_t ?_))
  | `(tactic| walk_at "eOr") => `(tactic| first
  | ((with_reducible show RIsi [D.int _, D.tup _] _ _ ∨ _); first | refine isi2 (t := "int") (b := true) rfl (by decide) (by decide) (by decide) ?_ | refine isi2 (t := "int") (b := false) rfl (by decide) (by decide) (by decide) ?_)
  | ((with_reducible show RIsi [D.bl _, D.tup _] _ _ ∨ _); first | refine isi2 (t := "bool") (b := true) rfl (by decide) (by decide) (by decide) ?_ | refine isi2 (t := "bool") (b := false) rfl (by decide) (by decide) (by decide) ?_)
  | ((with_reducible show RIsi [D.str _, D.tup _] _ _ ∨ _); first | refine isi2 (t := "str") (b := true) rfl (by decide) (by decide) (by decide) ?_ | refine isi2 (t := "str") (b := false) rfl (by decide) (by decide) (by decide) ?_)
  | ((with_reducible show RIsi [D.tup _, D.tup _] _ _ ∨ _); first | refine isi2 (t := "tuple") (b := true) rfl (by decide) (by decide) (by decide) ?_ | refine isi2 (t := "tuple") (b := false) rfl (by decide) (by decide) (by decide) ?_)
  | ((with_reducible show RIsi [D.lst _, D.tup _] _ _ ∨ _); first | refine isi2 (t := "list") (b := true) rfl (by decide) (by decide) (by decide) ?_ | refine isi2 (t := "list") (b := false) rfl (by decide) (by decide) (by decide) ?_)
  | ((with_reducible show RIsi [D.non, D.tup _] _ _ ∨ _); first | refine isi2 (t := "NoneType") (b := true) rfl (by decide) (by decide) (by decide) ?_ | refine isi2 (t := "NoneType") (b := false) rfl (by decide) (by decide) (by decide) ?_)
  | ((with_reducible show RIsi [D.int _, D.raw _] _ _ ∨ _); first | refine isi1 (t := "int") (b := true) rfl (by decide) (by decide) ?_ | refine isi1 (t := "int") (b := false) rfl (by decide) (by decide) ?_)
  | ((with_reducible show RIsi [D.bl _, D.raw _] _ _ ∨ _); first | refine isi1 (t := "bool") (b := true) rfl (by decide) (by decide) ?_ | refine isi1 (t := "bool") (b := false) rfl (by decide) (by decide) ?_)
  | ((with_reducible show RIsi [D.str _, D.raw _] _ _ ∨ _); first | refine isi1 (t := "str") (b := true) rfl (by decide) (by decide) ?_ | refine isi1 (t := "str") (b := false) rfl (by decide) (by decide) ?_)
  | ((with_reducible show RIsi [D.tup _, D.raw _] _ _ ∨ _); first | refine isi1 (t := "tuple") (b := true) rfl (by decide) (by decide) ?_ | refine isi1 (t := "tuple") (b := false) rfl (by decide) (by decide) ?_)
  | ((with_reducible show RIsi [D.lst _, D.raw _] _ _ ∨ _); first | refine isi1 (t := "list") (b := true) rfl (by decide) (by decide) ?_ | refine isi1 (t := "list") (b := false) rfl (by decide) (by decide) ?_)
  | ((with_reducible show RIsi [D.non, D.raw _] _ _ ∨ _); first | refine isi1 (t := "NoneType") (b := true) rfl (by decide) (by decide) ?_ | refine isi1 (t := "NoneType") (b := false) rfl (by decide) (by decide) ?_)
  | ((with_reducible show (∃ i, [D.int _] = [D.int i] ∧ _) ∨ _); refine .inl ⟨_, rfl, ?_⟩))
  | `(tactic| walk_at "eRAdd") => `(tactic| first
  | ((with_reducible show RAdd (D.str _) (D.str _) _ _); refine .inr (.inl ⟨_, _, rfl, rfl, ?_, ?_⟩))
  | ((with_reducible show RAdd (D.int _) (D.int _) _ _); refine .inl ⟨_, _, rfl, rfl, ?_⟩))
  | `(tactic| walk_at "eRSl") => `(tactic| first
  | ((with_reducible show RSl (D.str _) _ _ _ _); refine .inr ⟨_, rfl, ?_, ?_⟩)
  | ((with_reducible show RSl (D.lst _) _ _ _ _); refine .inl ⟨_, .l, ?_⟩))
  | `(tactic| walk_at "eAnd") => `(tactic| first
  | ((with_reducible show (∀ v, D.int _ ≠ D.raw v) ∧ _); refine nr_int ?_)
  | ((with_reducible show (∀ v, D.non ≠ D.raw v) ∧ _); refine nr_non ?_)
  | ((with_reducible show (∀ v, D.tup _ ≠ D.raw v) ∧ _); refine nr_tup ?_)
  | ((with_reducible show (∀ v, D.cel _ ≠ D.raw v) ∧ _); refine ⟨fun v e => (by cases e), ?_⟩)
  | ((with_reducible show (∀ v, D.lst _ ≠ D.raw v) ∧ _); refine ⟨fun v e => (by cases e), ?_⟩)
  | ((with_reducible show List.length _ ≤ sizeLine ∧ _); refine ⟨Nat.le_of_ble_eq_true rfl, ?_⟩))
  | `(tactic| walk_at "eRLen") => `(tactic| first
  | ((with_reducible show RLen [D.lst _] _ _); refine .inl ⟨_, _, rfl, .l, ?_⟩)
  | ((with_reducible show RLen [D.cel _] _ _); refine rlen_cl ?_)
  | ((with_reducible show RLen [D.str _] _ _); refine .inr (.inr ⟨_, rfl, ?_, ?_⟩))
  | ((with_reducible show RLen [D.tup _] _ _); refine .inr (.inl ⟨_, rfl, ?_⟩)))
  | `(tactic| walk_at "eWE") => `(tactic| first
  | ((with_reducible refine gENm ?_); walk_at "n")
  | ((with_reducible refine gECn ?_); walk_at "eWEConstant")
  | ((with_reducible refine gECl ?_); walk_at "eWECall")
  | ((with_reducible show WE _ _ (Expr.Tuple _ _ _) _ _ _); refine we_tup ?_)
  | ((with_reducible refine gECm ?_); walk_at "eWECompare")
  | ((with_reducible refine gEBi ?_); walk_at "eWEBinOp")
  | ((with_reducible show WE _ _ (Expr.UnaryOp _ _ _) _ _ _); walk_at "eWEUnaryOp")
  | ((with_reducible show WE _ _ (Expr.IfExp _ _ _ _) _ _ _); refine we_if ?_)
  | ((with_reducible refine gESu ?_); walk_at "eWESubscript")
  | ((with_reducible refine gEBo ?_); walk_at "eWEBoolOp")
  | ((with_reducible show WE _ _ (Expr.List [] _) _ _ (fun e M2 => REq _ _ _ _ _)); refine we_lst ?_))
  | `(tactic| walk_at "eWT") => `(tactic| first
  | ((with_reducible refine gTCm ?_); walk_at "eWTCompare")
  | ((with_reducible show WT _ _ (Expr.BoolOp _ _ _) _ _ _); refine ww_wt ?_)
  | ((with_reducible show WT _ _ (Expr.UnaryOp UnaryOp.Not _ _) _ _ _); refine wt_not ?_)
  | ((with_reducible show WT _ _ (Expr.Call _ _ _ _) _ _ _); refine wt_val ?_)
  | ((with_reducible show WT _ _ (Expr.Name _ _) _ _ _); refine wt_val ?_))
  | `(tactic| walk_at "e") => `(tactic| first
  | ((with_reducible show WE _ _ _ _ _ _); walk_at "eWE")
  | ((with_reducible show WA _ _ _ _ _ _); walk_at "eWA")
  | ((with_reducible show Exists _); walk_at "eEx")
  | ((with_reducible show WT _ _ _ _ _ _); walk_at "eWT")
  | ((with_reducible show REq _ _ _ _ _); walk_at "eREq")
  | ((with_reducible show if true = true then _ else _); refine iteT' ?_)
  | ((with_reducible show if false = true then _ else _); refine iteF' ?_)
  | ((with_reducible show WW _ _ _ _ _ _); walk_at "eWW")
  | ((with_reducible show RAdd _ _ _ _); walk_at "eRAdd")
  | ((with_reducible show _ ∧ _); walk_at "eAnd")
  | ((with_reducible show RIx _ _ _ _); walk_at "eRIx")
  | ((with_reducible show CL _ _ _); walk_at "cl")
  | ((with_reducible show _ ∨ _); walk_at "eOr")
  | ((with_reducible show WK _ _ _ _ _ _); walk_at "eWK")
  | ((with_reducible show WO _ _ _ _ _ _); walk_at "eWO")
  | ((with_reducible show RSl _ _ _ _ _); walk_at "eRSl")
  | ((with_reducible show onB _ (D.bl _) _); refine ⟨_, rfl, ?_⟩)
  | ((with_reducible show RLen _ _ _); walk_at "eRLen")
  | ((with_reducible show if isNonD _ = true then _ else _); first | refine iteP rfl ?_ | refine iteQ rfl ?_)
  | ((with_reducible show if (!isNonD _) = true then _ else _); first | refine iteP rfl ?_ | refine iteQ rfl ?_)
  | ((with_reducible show if _ = true then _ else _); first | refine iteP (by decide) ?_ | refine iteQ (by decide) ?_))
  | `(tactic| walk_at "sB") => `(tactic| first
  | ((with_reducible show WB _ _ [_] _ _ _); refine wb_one ?_)
  | ((with_reducible show WB _ _ (_ :: _) _ _ _); refine wb_cons ?_)
  | ((with_reducible show WB _ _ [] _ _ _); refine wb_nil ?_))
  | `(tactic| walk_at "sS") => `(tactic| first
  | ((with_reducible show WS _ _ (Stmt.Assign _ _ _) _ _ _); first
     | ((with_reducible show WS _ _ (Stmt.Assign [Expr.Subscript _ _ _] _ _) _ _ _); refine ws_asg ?_)
     | walk_at "t")
  | ((with_reducible show WS _ _ (Stmt.If _ _ _ _) _ _ _); refine ws_if ?_)
  | ((with_reducible show WS _ _ (Stmt.Return _ _) _ _ _); first
     | ((with_reducible show WS _ _ (Stmt.Return (some _) _) _ _ _); refine ws_ret ?_)
     | ((with_reducible show WS _ _ (Stmt.Return none _) _ _ _); refine ws_retN ?_))
  | ((with_reducible show WS _ _ (Stmt.Expr _ _) _ _ _); refine ws_expr ?_)
  | walk_at "t")
  | `(tactic| walk_at "sG") => `(tactic| first
  | ((with_reducible show WG _ _ (Expr.Tuple _ _ _) (D.tup _) _ _ _); refine wg_tup (by assumption) rfl ?_)
  | ((with_reducible show WG _ _ (Expr.Subscript _ _ _) _ _ _ _); refine wg_sub ?_)
  | walk_at "t")
  | `(tactic| walk_at "s") => `(tactic| first
  | ((with_reducible show WB _ _ _ _ _ _); walk_at "sB")
  | ((with_reducible show WS _ _ _ _ _ _); walk_at "sS")
  | ((with_reducible show WG _ _ _ _ _ _ _); walk_at "sG")
  | ((with_reducible show WGs _ _ [] [] _ _ _); refine wgs_nil ?_)
  | ((with_reducible show WGs _ _ (_ :: _) (_ :: _) _ _ _); refine wgs_cons ?_))
  | `(tactic| walk_at "g") => `(tactic| repeat (first
  | ((with_reducible show WB _ _ _ _ _ _); walk_at "s")
  | ((with_reducible show WS _ _ _ _ _ _); walk_at "s")
  | walk_at "e"
  | walk_at "s"))
/-! BooksA -/
def top (i : Nat) : Stmt := PySem.Challenge.pw_keeprests_k22_whole_fillings_one_by_one.main.body.getD i (.Pass ⟨0, 0, 0, 0⟩)
abbrev st_is_integer : Stmt := top 12
def N_is_integer : List Str := ["thing"]
theorem sc_is_integer : FnScope N_is_integer ["thing"] (defScope st_is_integer) := ⟨rfl, rfl, rfl, by decide +kernel, rfl, by decide +kernel, by decide +kernel⟩
abbrev st_is_told : Stmt := top 13
def N_is_told : List Str := ["thing"]
theorem sc_is_told : FnScope N_is_told ["thing"] (defScope st_is_told) := ⟨rfl, rfl, rfl, by decide +kernel, rfl, by decide +kernel, by decide +kernel⟩
abbrev st_is_item : Stmt := top 14
def N_is_item : List Str := ["thing"]
theorem sc_is_item : FnScope N_is_item ["thing"] (defScope st_is_item) := ⟨rfl, rfl, rfl, by decide +kernel, rfl, by decide +kernel, by decide +kernel⟩
abbrev st_is_book : Stmt := top 15
def N_is_book : List Str := ["thing", "one", "other", "item"]
theorem sc_is_book : FnScope N_is_book ["thing"] (defScope st_is_book) := ⟨rfl, rfl, rfl, by decide +kernel, rfl, by decide +kernel, by decide +kernel⟩
abbrev st_need_book : Stmt := top 16
def N_need_book : List Str := ["book"]
theorem sc_need_book : FnScope N_need_book ["book"] (defScope st_need_book) := ⟨rfl, rfl, rfl, by decide +kernel, rfl, by decide +kernel, by decide +kernel⟩
abbrev st_divisor_of : Stmt := top 17
def N_divisor_of : List Str := ["one", "other"]
theorem sc_divisor_of : FnScope N_divisor_of ["one", "other"] (defScope st_divisor_of) := ⟨rfl, rfl, rfl, by decide +kernel, rfl, by decide +kernel, by decide +kernel⟩
abbrev st_multiple_of : Stmt := top 18
def N_multiple_of : List Str := ["numbers", "found", "number"]
theorem sc_multiple_of : FnScope N_multiple_of ["numbers"] (defScope st_multiple_of) := ⟨rfl, rfl, rfl, by decide +kernel, rfl, by decide +kernel, by decide +kernel⟩
abbrev st_divides : Stmt := top 19
def N_divides : List Str := ["number", "other"]
theorem sc_divides : FnScope N_divides ["number", "other"] (defScope st_divides) := ⟨rfl, rfl, rfl, by decide +kernel, rfl, by decide +kernel, by decide +kernel⟩
abbrev st_do_fit : Stmt := top 20
def N_do_fit : List Str := ["one", "other"]
theorem sc_do_fit : FnScope N_do_fit ["one", "other"] (defScope st_do_fit) := ⟨rfl, rfl, rfl, by decide +kernel, rfl, by decide +kernel, by decide +kernel⟩
abbrev st_conflicts_in : Stmt := top 21
def N_conflicts_in : List Str := ["book", "found", "first", "one", "second"]
theorem sc_conflicts_in : FnScope N_conflicts_in ["book"] (defScope st_conflicts_in) := ⟨rfl, rfl, rfl, by decide +kernel, rfl, by decide +kernel, by decide +kernel⟩
abbrev st_conflict_in : Stmt := top 22
def N_conflict_in : List Str := ["book", "found"]
theorem sc_conflict_in : FnScope N_conflict_in ["book"] (defScope st_conflict_in) := ⟨rfl, rfl, rfl, by decide +kernel, rfl, by decide +kernel, by decide +kernel⟩
abbrev st_need_fitting : Stmt := top 23
def N_need_fitting : List Str := ["book", "conflict"]
theorem sc_need_fitting : FnScope N_need_fitting ["book"] (defScope st_need_fitting) := ⟨rfl, rfl, rfl, by decide +kernel, rfl, by decide +kernel, by decide +kernel⟩
abbrev st_need_possible : Stmt := top 24
def N_need_possible : List Str := ["book"]
theorem sc_need_possible : FnScope N_need_possible ["book"] (defScope st_need_possible) := ⟨rfl, rfl, rfl, by decide +kernel, rfl, by decide +kernel, by decide +kernel⟩
abbrev st_conflict_of : Stmt := top 25
def N_conflict_of : List Str := ["book"]
theorem sc_conflict_of : FnScope N_conflict_of ["book"] (defScope st_conflict_of) := ⟨rfl, rfl, rfl, by decide +kernel, rfl, by decide +kernel, by decide +kernel⟩
abbrev st_inverse_of : Stmt := top 27
def N_inverse_of : List Str := ["number", "modulus", "one", "other", "factor", "former", "share"]
theorem sc_inverse_of : FnScope N_inverse_of ["number", "modulus"] (defScope st_inverse_of) := ⟨rfl, rfl, rfl, by decide +kernel, rfl, by decide +kernel, by decide +kernel⟩
abbrev st_met : Stmt := top 28
def N_met : List Str := ["one", "other", "divisor", "part", "rounds"]
theorem sc_met : FnScope N_met ["one", "other"] (defScope st_met) := ⟨rfl, rfl, rfl, by decide +kernel, rfl, by decide +kernel, by decide +kernel⟩
abbrev st_class_by : Stmt := top 29
def N_class_by : List Str := ["items", "place", "found", "told", "value", "far"]
theorem sc_class_by : FnScope N_class_by ["items", "place"] (defScope st_class_by) := ⟨rfl, rfl, rfl, by decide +kernel, rfl, by decide +kernel, by decide +kernel⟩
abbrev st_class_at : Stmt := top 30
def N_class_at : List Str := ["book", "place"]
theorem sc_class_at : FnScope N_class_at ["book", "place"] (defScope st_class_at) := ⟨rfl, rfl, rfl, by decide +kernel, rfl, by decide +kernel, by decide +kernel⟩
abbrev st_need_places : Stmt := top 34
def N_need_places : List Str := ["book", "places", "is_list", "told", "place", "value"]
theorem sc_need_places : FnScope N_need_places ["book", "places"] (defScope st_need_places) := ⟨rfl, rfl, rfl, by decide +kernel, rfl, by decide +kernel, by decide +kernel⟩
abbrev st_need_open : Stmt := top 35
def N_need_open : List Str := ["book", "places"]
theorem sc_need_open : FnScope N_need_open ["book", "places"] (defScope st_need_open) := ⟨rfl, rfl, rfl, by decide +kernel, rfl, by decide +kernel, by decide +kernel⟩
abbrev st_steps_in : Stmt := top 36
def N_steps_in : List Str := ["book", "places", "found", "index", "place", "others", "told", "value", "other"]
theorem sc_steps_in : FnScope N_steps_in ["book", "places"] (defScope st_steps_in) := ⟨rfl, rfl, rfl, by decide +kernel, rfl, by decide +kernel, by decide +kernel⟩
abbrev st_size_in : Stmt := top 37
def N_size_in : List Str := ["book", "places"]
theorem sc_size_in : FnScope N_size_in ["book", "places"] (defScope st_size_in) := ⟨rfl, rfl, rfl, by decide +kernel, rfl, by decide +kernel, by decide +kernel⟩
abbrev st_count_in : Stmt := top 38
def N_count_in : List Str := ["steps", "size", "found", "step"]
theorem sc_count_in : FnScope N_count_in ["steps", "size"] (defScope st_count_in) := ⟨rfl, rfl, rfl, by decide +kernel, rfl, by decide +kernel, by decide +kernel⟩
abbrev st_need_size : Stmt := top 39
def N_need_size : List Str := ["book", "places", "size", "common"]
theorem sc_need_size : FnScope N_need_size ["book", "places", "size"] (defScope st_need_size) := ⟨rfl, rfl, rfl, by decide +kernel, rfl, by decide +kernel, by decide +kernel⟩
abbrev st_step_list : Stmt := top 40
def N_step_list : List Str := ["book", "places"]
theorem sc_step_list : FnScope N_step_list ["book", "places"] (defScope st_step_list) := ⟨rfl, rfl, rfl, by decide +kernel, rfl, by decide +kernel, by decide +kernel⟩
abbrev st_common_size : Stmt := top 41
def N_common_size : List Str := ["book", "places"]
theorem sc_common_size : FnScope N_common_size ["book", "places"] (defScope st_common_size) := ⟨rfl, rfl, rfl, by decide +kernel, rfl, by decide +kernel, by decide +kernel⟩
abbrev st_count_fillings : Stmt := top 42
def N_count_fillings : List Str := ["book", "places", "size"]
theorem sc_count_fillings : FnScope N_count_fillings ["book", "places", "size"] (defScope st_count_fillings) := ⟨rfl, rfl, rfl, by decide +kernel, rfl, by decide +kernel, by decide +kernel⟩
abbrev st_nth_filling : Stmt := top 43
def N_nth_filling : List Str := ["book", "places", "size", "index", "steps", "found", "rest", "number", "place", "later", "rounds", "least", "step"]
theorem sc_nth_filling : FnScope N_nth_filling ["book", "places", "size", "index"] (defScope st_nth_filling) := ⟨rfl, rfl, rfl, by decide +kernel, rfl, by decide +kernel, by decide +kernel⟩
abbrev st_index_in : Stmt := top 44
def N_index_in : List Str := ["book", "places", "steps", "size", "values", "found", "number", "place", "least", "step", "value"]
theorem sc_index_in : FnScope N_index_in ["book", "places", "steps", "size", "values"] (defScope st_index_in) := ⟨rfl, rfl, rfl, by decide +kernel, rfl, by decide +kernel, by decide +kernel⟩
abbrev st_filling_index : Stmt := top 45
def N_filling_index : List Str := ["book", "places", "size", "values", "is_list", "found", "value"]
theorem sc_filling_index : FnScope N_filling_index ["book", "places", "size", "values"] (defScope st_filling_index) := ⟨rfl, rfl, rfl, by decide +kernel, rfl, by decide +kernel, by decide +kernel⟩
abbrev st_vectors_in : Stmt := top 46
def N_vectors_in : List Str := ["book", "places", "told", "steps", "found", "first", "step", "row", "place", "value"]
theorem sc_vectors_in : FnScope N_vectors_in ["book", "places"] (defScope st_vectors_in) := ⟨rfl, rfl, rfl, by decide +kernel, rfl, by decide +kernel, by decide +kernel⟩
abbrev st_triangle : Stmt := top 47
def N_triangle : List Str := ["book", "places"]
theorem sc_triangle : FnScope N_triangle ["book", "places"] (defScope st_triangle) := ⟨rfl, rfl, rfl, by decide +kernel, rfl, by decide +kernel, by decide +kernel⟩
abbrev st_summed : Stmt := top 48
def N_summed : List Str := ["weights", "values", "weight", "value"]
theorem sc_summed : FnScope N_summed ["weights", "values"] (defScope st_summed) := ⟨rfl, rfl, rfl, by decide +kernel, rfl, by decide +kernel, by decide +kernel⟩
abbrev st_need_weights : Stmt := top 49
def N_need_weights : List Str := ["places", "weights", "is_list", "weight"]
theorem sc_need_weights : FnScope N_need_weights ["places", "weights"] (defScope st_need_weights) := ⟨rfl, rfl, rfl, by decide +kernel, rfl, by decide +kernel, by decide +kernel⟩
abbrev st_sure_sum : Stmt := top 50
def N_sure_sum : List Str := ["book", "places", "weights", "modulus", "row", "values", "place", "total"]
theorem sc_sure_sum : FnScope N_sure_sum ["book", "places", "weights"] (defScope st_sure_sum) := ⟨rfl, rfl, rfl, by decide +kernel, rfl, by decide +kernel, by decide +kernel⟩
abbrev st_l_purse : Stmt := top 52
def N_l_purse : List Str := ["_law_script", "_law_k", "_law_cell_here"]
theorem sc_l_purse : FnScope N_l_purse ["_law_script", "_law_k"] (defScope st_l_purse) := ⟨rfl, rfl, rfl, by decide +kernel, rfl, by decide +kernel, by decide +kernel⟩
abbrev st_l_toss : Stmt := top 53
def N_l_toss : List Str := ["_law_purse_here", "_law_many", "_law_side", "_law_mixed_here"]
theorem sc_l_toss : FnScope N_l_toss ["_law_purse_here", "_law_many"] (defScope st_l_toss) := ⟨rfl, rfl, rfl, by decide +kernel, rfl, by decide +kernel, by decide +kernel⟩
abbrev st_l_divisor : Stmt := top 54
def N_l_divisor : List Str := ["_law_a", "_law_b"]
theorem sc_l_divisor : FnScope N_l_divisor ["_law_a", "_law_b"] (defScope st_l_divisor) := ⟨rfl, rfl, rfl, by decide +kernel, rfl, by decide +kernel, by decide +kernel⟩
abbrev st_l_multiple : Stmt := top 55
def N_l_multiple : List Str := ["_law_some", "_law_found", "_law_far"]
theorem sc_l_multiple : FnScope N_l_multiple ["_law_some"] (defScope st_l_multiple) := ⟨rfl, rfl, rfl, by decide +kernel, rfl, by decide +kernel, by decide +kernel⟩
abbrev st_l_row : Stmt := top 56
def N_l_row : List Str := ["_law_purse_here", "_law_style", "_law_top", "_law_own", "_law_turn"]
theorem sc_l_row : FnScope N_l_row ["_law_purse_here"] (defScope st_l_row) := ⟨rfl, rfl, rfl, by decide +kernel, rfl, by decide +kernel, by decide +kernel⟩
abbrev st_l_at : Stmt := top 57
def N_l_at : List Str := ["_law_row_here_here", "_law_spot", "_law_found", "_law_ring", "_law_upper", "_law_lower", "_law_k", "_law_own"]
theorem sc_l_at : FnScope N_l_at ["_law_row_here_here", "_law_spot"] (defScope st_l_at) := ⟨rfl, rfl, rfl, by decide +kernel, rfl, by decide +kernel, by decide +kernel⟩
abbrev st_l_spots : Stmt := top 58
def N_l_spots : List Str := ["_law_purse_here", "_law_row_here_here", "_law_most", "_law_found", "_law_last", "_law_turn", "_law_far"]
theorem sc_l_spots : FnScope N_l_spots ["_law_purse_here", "_law_row_here_here", "_law_most"] (defScope st_l_spots) := ⟨rfl, rfl, rfl, by decide +kernel, rfl, by decide +kernel, by decide +kernel⟩
abbrev st_l_book : Stmt := top 59
def N_l_book : List Str := ["_law_purse_here", "_law_row_here_here", "_law_most", "_law_spot"]
theorem sc_l_book : FnScope N_l_book ["_law_purse_here", "_law_row_here_here", "_law_most"] (defScope st_l_book) := ⟨rfl, rfl, rfl, by decide +kernel, rfl, by decide +kernel, by decide +kernel⟩
abbrev st_l_new : Stmt := top 61
def N_l_new : List Str := ["_law_purse_here", "_law_book_here", "_law_row_here_here", "_law_most", "_law_told", "_law_found", "_law_turn", "_law_far", "_law_beside", "_law_spot", "_law_row_here"]
theorem sc_l_new : FnScope N_l_new ["_law_purse_here", "_law_book_here", "_law_row_here_here", "_law_most"] (defScope st_l_new) := ⟨rfl, rfl, rfl, by decide +kernel, rfl, by decide +kernel, by decide +kernel⟩
abbrev st_l_mixed : Stmt := top 62
def N_l_mixed : List Str := ["_law_purse_here", "_law_size_here", "_law_left", "_law_found", "_law_turn"]
theorem sc_l_mixed : FnScope N_l_mixed ["_law_purse_here", "_law_size_here"] (defScope st_l_mixed) := ⟨rfl, rfl, rfl, by decide +kernel, rfl, by decide +kernel, by decide +kernel⟩
abbrev st_l_product : Stmt := top 63
def N_l_product : List Str := ["_law_some", "_law_found", "_law_factor"]
theorem sc_l_product : FnScope N_l_product ["_law_some"] (defScope st_l_product) := ⟨rfl, rfl, rfl, by decide +kernel, rfl, by decide +kernel, by decide +kernel⟩
abbrev st_l_told_right : Stmt := top 64
def N_l_told_right : List Str := ["_law_book_here", "_law_fresh", "_law_told", "_law_found", "_law_steps_here", "_law_spot", "_law_val", "_law_step", "_law_rest", "_law_ring"]
theorem sc_l_told_right : FnScope N_l_told_right ["_law_book_here", "_law_fresh", "_law_told"] (defScope st_l_told_right) := ⟨rfl, rfl, rfl, by decide +kernel, rfl, by decide +kernel, by decide +kernel⟩
abbrev st_l_right : Stmt := top 65
def N_l_right : List Str := ["_law_purse_here", "_law_book_here", "_law_fresh", "_law_whole", "_law_many", "_law_told", "_law_factors", "_law_turn", "_law_names", "_law_others", "_law_vals", "_law_place", "_law_turned", "_law_lines_here", "_law_one_line", "_law_other_line", "_law_summed_here", "_law_rest", "_law_ring", "_law_total", "_law_spot", "_law_a", "_law_b", "_law_c", "_law_k"]
theorem sc_l_right : FnScope N_l_right ["_law_purse_here", "_law_book_here", "_law_fresh"] (defScope st_l_right) := ⟨rfl, rfl, rfl, by decide +kernel, rfl, by decide +kernel, by decide +kernel⟩
abbrev st_law : Stmt := top 66
def N_law : List Str := ["_law_script", "_law_k", "_law_purse_here", "_law_most", "_law_row_here_here", "_law_book_here"]
theorem sc_law : FnScope N_law ["_law_script"] (defScope st_law) := ⟨rfl, rfl, rfl, by decide +kernel, rfl, by decide +kernel, by decide +kernel⟩
def TInt1 : TSp := fun ds M Q _ => ∃ i, ds = [.int i] ∧ Q (.bl true) M
theorem TInt1_mono : Mono TInt1 := fun ds M Q Q' E E' h _ ⟨i, h1, h2⟩ => ⟨i, h1, h _ _ h2⟩
theorem TInt1_len : ∀ ds M Q E, TInt1 ds M Q E → ds.length = 1 := fun ds M Q E h => by obtain ⟨_, rfl, _⟩ := h; rfl
def TTold : TSp := fun ds M Q _ => ∃ i, ds = [.int i] ∧ Small i ∧ Q (.bl true) M
theorem TTold_mono : Mono TTold := fun ds M Q Q' E E' h _ ⟨i, h1, h3, h2⟩ => ⟨i, h1, h3, h _ _ h2⟩
theorem TTold_len : ∀ ds M Q E, TTold ds M Q E → ds.length = 1 := fun ds M Q E h => by obtain ⟨_, rfl, _⟩ := h; rfl
def TIsItem : TSp := fun ds M Q _ => ∃ x, ds = [itemD x] ∧ Small x.1 ∧ Small x.2 ∧ Q (.bl true) M
theorem TIsItem_mono : Mono TIsItem := fun ds M Q Q' E E' h _ ⟨i, h1, h3, h4, h2⟩ => ⟨i, h1, h3, h4, h _ _ h2⟩
theorem TIsItem_len : ∀ ds M Q E, TIsItem ds M Q E → ds.length = 1 := fun ds M Q E h => by obtain ⟨_, rfl, _⟩ := h; rfl
def TIsBook : TSp := fun ds M Q _ => ∃ d xs, ds = [d] ∧ LV M d (bookD xs) ∧ BookOk xs ∧ Q (.bl true) M
theorem TIsBook_mono : Mono TIsBook := fun ds M Q Q' E E' h _ ⟨d, i, h1, h3, h4, h2⟩ => ⟨d, i, h1, h3, h4, h _ _ h2⟩
theorem TIsBook_len : ∀ ds M Q E, TIsBook ds M Q E → ds.length = 1 := fun ds M Q E h => by obtain ⟨_, _, rfl, _⟩ := h; rfl
def TNeedBook : TSp := fun ds M Q _ => ∃ d xs, ds = [d] ∧ LV M d (bookD xs) ∧ BookOk xs ∧ Q .non M
theorem TNeedBook_mono : Mono TNeedBook := fun ds M Q Q' E E' h _ ⟨d, i, h1, h3, h4, h2⟩ => ⟨d, i, h1, h3, h4, h _ _ h2⟩
theorem TNeedBook_len : ∀ ds M Q E, TNeedBook ds M Q E → ds.length = 1 := fun ds M Q E h => by obtain ⟨_, _, rfl, _⟩ := h; rfl
section
variable {P : Program} {w : World} {K : PySem.W.Frag} {mg : Str → Option Value} {base : Heap}
local macro_rules
  | `(tactic| walk_at "ok") => `(tactic| first
  | ((show BlkOk N_is_integer (defScope st_is_integer) _ _); exact blkOk_by (by decide +kernel)))
  | `(tactic| walk_at "eWECall") => `(tactic| first
  | ((with_reducible refine gC "isinstance" ?_); refine we_isi rfl (by assumption) ?_))
  | `(tactic| walk_at "n") => `(tactic| first
  | ((with_reducible refine gN "thing" ?_); refine we_nm 0 rfl rfl ?_)
  | ((with_reducible show WE _ _ (Expr.Name "int" _) _ _ _); refine we_bltn (v := .ty "int") rfl (by assumption) (by decide +kernel) rfl ?_)
  | ((with_reducible show WE _ _ (Expr.Name "bool" _) _ _ _); refine we_bltn (v := .ty "bool") rfl (by assumption) (by decide +kernel) rfl ?_))
  | `(tactic| walk_at "t") => `(tactic| first
  | ((with_reducible show WS _ _ (Stmt.Assign [Expr.Tuple _ _ _] _ _) _ _ _); refine ws_asg ?_))
theorem fn_is_integer {f : Addr} {fd : FuncData} (b_isi : mg "isinstance" = none) (b_int : mg "int" = none) (b_bool : mg "bool" = none) (Fn : L2.Fun K "is_integer" "is_integer" st_is_integer f fd) :
    FnOk P w K mg base (L2.CX P w) 1 f fd ["thing"] (spG K TInt1) := by
  refine fn_ok Fn sc_is_integer rfl TInt1_len ?_
  intro cdv A outer s H E N hr ds M Q X' h
  obtain ⟨i, rfl, q⟩ := h
  show WB _ _ _ [some _] _ _
  refine wb_one ?_
  walk_at "g"
  exact q
end
section
variable {P : Program} {w : World} {K : PySem.W.Frag} {mg : Str → Option Value} {base : Heap}
local macro_rules
  | `(tactic| walk_at "ok") => `(tactic| first
  | ((show BlkOk N_is_told (defScope st_is_told) _ _); exact blkOk_by (by decide +kernel)))
  | `(tactic| walk_at "eWECall") => `(tactic| first
  | ((with_reducible show WE _ _ (Expr.Call (Expr.Name _ _) _ _ _) _ _ _); walk_at "c"))
  | `(tactic| walk_at "n") => `(tactic| first
  | ((with_reducible refine gN "thing" ?_); refine we_nm 0 rfl rfl ?_)
  | ((with_reducible show WE _ _ (Expr.Name "MOST" _) _ _ _); refine we_globI rfl (by assumption) ?_))
  | `(tactic| walk_at "t") => `(tactic| first
  | ((with_reducible show WS _ _ (Stmt.Assign [Expr.Tuple _ _ _] _ _) _ _ _); refine ws_asg ?_))
  | `(tactic| walk_at "c") => `(tactic| first
  | ((with_reducible refine gCK "is_integer" ?_); refine we_cl "is_integer" ?_))
theorem fn_is_told {f : Addr} {fd : FuncData} (c1 : ∃ t, mg "MOST" = some (.int 1000000000000000000000000000000 t)) (d_int : FD P w K mg base 1 "is_integer" 1 TInt1) (Fn : L2.Fun K "is_told" "is_told" st_is_told f fd) :
    FnOk P w K mg base (L2.CX P w) 2 f fd ["thing"] (spG K TTold) := by
  refine fn_ok Fn sc_is_told rfl TTold_len ?_
  intro cdv A outer s H E N hr ds M Q X' h
  obtain ⟨i, rfl, hi, q⟩ := h
  have hi' : i.natAbs ≤ 10 ^ 30 := hi
  show WB _ _ _ [some _] _ _
  refine wb_one ?_
  walk_at "g"
  refine ⟨i, rfl, ?_⟩
  walk_at "g"
  refine iteP (decide_eq_true (by omega)) ?_
  walk_at "g"
  rw [decide_eq_true (show i ≤ 1000000000000000000000000000000 by omega)]
  exact q
end
section
variable {P : Program} {w : World} {K : PySem.W.Frag} {mg : Str → Option Value} {base : Heap}
local macro_rules
  | `(tactic| walk_at "ok") => `(tactic| first
  | ((show BlkOk N_is_item (defScope st_is_item) _ _); exact blkOk_by (by decide +kernel)))
  | `(tactic| walk_at "eWECall") => `(tactic| first
  | ((with_reducible refine gC "isinstance" ?_); refine we_isi rfl (by assumption) ?_)
  | ((with_reducible show WE _ _ (Expr.Call (Expr.Name _ _) _ _ _) _ _ _); walk_at "c")
  | ((with_reducible refine gC "len" ?_); refine we_len rfl (by assumption) ?_))
  | `(tactic| walk_at "n") => `(tactic| first
  | ((with_reducible refine gN "thing" ?_); refine we_nm 0 rfl rfl ?_)
  | ((with_reducible show WE _ _ (Expr.Name "tuple" _) _ _ _); refine we_bltn (v := .ty "tuple") rfl (by assumption) (by decide +kernel) rfl ?_))
  | `(tactic| walk_at "t") => `(tactic| first
  | ((with_reducible show WS _ _ (Stmt.Assign [Expr.Tuple _ _ _] _ _) _ _ _); refine ws_asg ?_))
  | `(tactic| walk_at "c") => `(tactic| first
  | ((with_reducible refine gCK "is_told" ?_); refine we_cl "is_told" ?_))
theorem fn_is_item {f : Addr} {fd : FuncData} (b_isi : mg "isinstance" = none) (b_len : mg "len" = none) (b_tuple : mg "tuple" = none) (d_told : FD P w K mg base 2 "is_told" 1 TTold) (Fn : L2.Fun K "is_item" "is_item" st_is_item f fd) :
    FnOk P w K mg base (L2.CX P w) 3 f fd ["thing"] (spG K TIsItem) := by
  refine fn_ok Fn sc_is_item rfl TIsItem_len ?_
  intro cdv A outer s H E N hr ds M Q X' h
  obtain ⟨x, rfl, h1, h2, q⟩ := h
  show WB _ _ _ [some (.tup [.int x.1, .int x.2])] _ _
  refine wb_one ?_
  walk_at "g"
  refine iteP (decide_eq_true rfl) ?_
  walk_at "g"
  refine ⟨x.1, rfl, h1, ?_⟩
  walk_at "g"
  refine ⟨x.2, rfl, h2, ?_⟩
  exact q
end
section
variable {P : Program} {w : World} {K : PySem.W.Frag} {mg : Str → Option Value} {base : Heap}
local macro_rules
  | `(tactic| walk_at "ok") => `(tactic| first
  | ((show BlkOk N_is_book (defScope st_is_book) _ _); exact blkOk_by (by decide +kernel)))
  | `(tactic| walk_at "tG") => `(tactic| first
  | ((with_reducible refine gG "one" ?_); refine wg_nm 1 ?_)
  | ((with_reducible refine gG "other" ?_); refine wg_nm 2 ?_)
  | ((with_reducible refine gG "item" ?_); refine wg_nm 3 ?_))
  | `(tactic| walk_at "eWECall") => `(tactic| first
  | ((with_reducible refine gC "all" ?_); refine we_all rfl rfl (by assumption) ?_)
  | ((with_reducible refine gC "isinstance" ?_); refine we_isi rfl (by assumption) ?_)
  | ((with_reducible refine gC "len" ?_); refine we_len rfl (by assumption) ?_)
  | ((with_reducible show WE _ _ (Expr.Call (Expr.Name _ _) _ _ _) _ _ _); walk_at "c"))
  | `(tactic| walk_at "n") => `(tactic| first
  | ((with_reducible refine gN "thing" ?_); refine we_nm 0 rfl rfl ?_)
  | ((with_reducible refine gN "one" ?_); refine we_nm 1 rfl rfl ?_)
  | ((with_reducible refine gN "other" ?_); refine we_nm 2 rfl rfl ?_)
  | ((with_reducible refine gN "item" ?_); refine we_nm 3 rfl rfl ?_)
  | ((with_reducible show WE _ _ (Expr.Name "MOST_ITEMS" _) _ _ _); refine we_globI rfl (by assumption) ?_)
  | ((with_reducible show WE _ _ (Expr.Name "list" _) _ _ _); refine we_bltn (v := .ty "list") rfl (by assumption) (by decide +kernel) rfl ?_))
  | `(tactic| walk_at "t") => `(tactic| first
  | ((with_reducible show WG _ _ (Expr.Name _ _) _ _ _ _); walk_at "tG")
  | ((with_reducible show WS _ _ (Stmt.Assign [Expr.Tuple _ _ _] _ _) _ _ _); refine ws_asg ?_))
  | `(tactic| walk_at "c") => `(tactic| first
  | ((with_reducible refine gCK "is_item" ?_); refine we_cl "is_item" ?_))
  | `(tactic| walk_at "tg") => `(tactic| first
  | exact Tg.two (i := 1) (j := 2) rfl rfl (by decide) rfl rfl
  | exact Tg.one (i := 3) rfl rfl)
theorem fn_is_book {f : Addr} {fd : FuncData} (b_isi : mg "isinstance" = none) (b_len : mg "len" = none) (b_list : mg "list" = none) (b_all : mg "all" = none) (b_zip : mg "zip" = none) (c1 : ∃ t, mg "MOST_ITEMS" = some (.int 24 t)) (d_item : FD P w K mg base 3 "is_item" 1 TIsItem) (Fn : L2.Fun K "is_book" "is_book" st_is_book f fd) :
    FnOk P w K mg base (L2.CX P w) 4 f fd ["thing"] (spG K TIsBook) := by
  refine fn_ok Fn sc_is_book rfl TIsBook_len ?_
  intro cdv A outer s H E N hr ds M Q X' h
  obtain ⟨d, xs, rfl, hl, hb, q⟩ := h
  show WB _ _ _ [some _, none, none, none] _ _
  refine wb_cons ?_
  walk_at "g"
  refine isi1 hl.ty (by decide) (b := true) (by decide) ?_
  walk_at "g"
  refine Sq.len (.inl ⟨rfl, hl⟩) ?_
  walk_at "g"
  refine iteQ (decide_eq_false (by unfold bookD; rw [List.length_map]; have := hb.1; omega)) ?_
  walk_at "g"
  refine we_froz 0 (we_lcM (fun _ => .bl true) N (by walk_at "tg") (by walk_at "ok") (wi_list ?_))
  walk_at "g"
  refine ⟨_, hl, ?_, fun _ _ => hl.cons, ?_, ?_⟩
  · unfold bookD; rw [List.length_map, sizeLine_eq]; have := hb.1; omega
  · intro j d' acc p hd
    obtain ⟨y, hy, rfl⟩ := List.mem_map.mp (List.mem_of_getElem? hd)
    refine ⟨_, rfl, fun B => ?_⟩
    walk_at "g"
    exact ⟨y, rfl, (hb.2.1 y hy).1, (hb.2.1 y hy).2, rfl, rfl⟩
  · intro p
    refine ⟨p, _, rfl, rfl, ?_⟩
    walk_at "g"
    refine ⟨_, List.replicate xs.length true, rfl, ?_, ?_⟩
    · rw [show (List.replicate xs.length true).map D.bl = (bookD xs).map fun _ => D.bl true by unfold bookD; rw [List.map_map, List.map_replicate]; exact (List.map_const' ..).symm]
      exact .l
    · rw [show (List.replicate xs.length true).all id = true by simp]
      walk_at "g"
      refine we_froz 0 (we_lcM (fun _ => .bl true) N (by walk_at "tg") (by walk_at "ok") (wi_zip rfl (by assumption) ?_))
      walk_at "g"
      refine .inl ⟨_, hl, ?_⟩
      rw [cutD_1]
      walk_at "g"
      refine ⟨_, _, bookD xs, (bookD xs).drop 1, rfl, hl, .l, ?_, fun _ _ => ⟨hl.cons, .l⟩, ?_, ?_⟩
      · rw [zipD_len]
        unfold bookD; rw [List.length_map, sizeLine_eq]; have := hb.1; omega
      · intro j d' acc p' hd
        obtain ⟨u, v, hu, hv, rfl⟩ := zipD_inv hd
        unfold bookD at hu hv
        rw [List.getElem?_drop, List.getElem?_map] at hv
        rw [List.getElem?_map] at hu
        cases e1 : xs[j]? with
        | none => rw [e1] at hu; cases hu
        | some y =>
          cases e2 : xs[1 + j]? with
          | none => rw [e2] at hv; cases hv
          | some z =>
            obtain rfl : u = .tup [.int y.1, .int y.2] := by rw [e1] at hu; exact (Option.some.inj hu).symm
            obtain rfl : v = .tup [.int z.1, .int z.2] := by rw [e2] at hv; exact (Option.some.inj hv).symm
            have hlt : y.1 < z.1 := by
              obtain ⟨h1, h1'⟩ := List.getElem?_eq_some_iff.mp e1
              obtain ⟨h2, h2'⟩ := List.getElem?_eq_some_iff.mp e2
              have := List.pairwise_iff_getElem.mp hb.2.2 j (1 + j) (by simpa using h1) (by simpa using h2) (by omega)
              simpa [h1', h2'] using this
            refine ⟨_, ⟨_, _, rfl, rfl⟩, fun B => ?_⟩
            walk_at "g"
            all_goals first | rfl | rw [decide_eq_true hlt]
      · intro p'
        refine ⟨p', _, rfl, rfl, ?_⟩
        walk_at "g"
        obtain ⟨bs, e1, e2⟩ := all_true (zipD (bookD xs) ((bookD xs).drop 1))
        refine ⟨_, bs, rfl, by rw [e1]; exact .l, ?_⟩
        rw [e2]
        exact q
end
def TDivs : TSp := fun ds M Q _ => ∃ a b : Int, ds = [.int a, .int b] ∧ Q (.bl (decide (a ∣ b))) M
theorem TDivs_mono : Mono TDivs := fun ds M Q Q' E E' h _ ⟨a, b, h1, h2⟩ => ⟨a, b, h1, h _ _ h2⟩
theorem TDivs_len : ∀ ds M Q E, TDivs ds M Q E → ds.length = 2 := fun ds M Q E h => by obtain ⟨_, _, rfl, _⟩ := h; rfl
section
variable {P : Program} {w : World} {K : PySem.W.Frag} {mg : Str → Option Value} {base : Heap}
local macro_rules
  | `(tactic| walk_at "ok") => `(tactic| first
  | ((show BlkOk N_need_book (defScope st_need_book) _ _); exact blkOk_by (by decide +kernel)))
  | `(tactic| walk_at "eWECall") => `(tactic| first
  | ((with_reducible show WE _ _ (Expr.Call (Expr.Name _ _) _ _ _) _ _ _); walk_at "c"))
  | `(tactic| walk_at "n") => `(tactic| first
  | ((with_reducible refine gN "book" ?_); refine we_nm 0 rfl rfl ?_))
  | `(tactic| walk_at "t") => `(tactic| first
  | ((with_reducible show WS _ _ (Stmt.Assign [Expr.Tuple _ _ _] _ _) _ _ _); refine ws_asg ?_))
  | `(tactic| walk_at "c") => `(tactic| first
  | ((with_reducible refine gCK "is_book" ?_); refine we_cl "is_book" ?_))
theorem fn_need_book {f : Addr} {fd : FuncData} (d_book : FD P w K mg base 4 "is_book" 1 TIsBook) (Fn : L2.Fun K "need_book" "need_book" st_need_book f fd) :
    FnOk P w K mg base (L2.CX P w) 5 f fd ["book"] (spG K TNeedBook) := by
  refine fn_ok Fn sc_need_book rfl TNeedBook_len ?_
  intro cdv A outer s H E N hr ds M Q X' h
  obtain ⟨d, xs, rfl, hl, hb, q⟩ := h
  show WB _ _ _ [some _] _ _
  refine wb_one ?_
  walk_at "g"
  refine ⟨_, xs, rfl, hl, hb, ?_⟩
  walk_at "g"
  exact q
end
section
variable {P : Program} {w : World} {K : PySem.W.Frag} {mg : Str → Option Value} {base : Heap}
local macro_rules
  | `(tactic| walk_at "ok") => `(tactic| first
  | ((show BlkOk N_divides (defScope st_divides) _ _); exact blkOk_by (by decide +kernel)))
  | `(tactic| walk_at "n") => `(tactic| first
  | ((with_reducible refine gN "number" ?_); refine we_nm 0 rfl rfl ?_)
  | ((with_reducible refine gN "other" ?_); refine we_nm 1 rfl rfl ?_))
  | `(tactic| walk_at "t") => `(tactic| first
  | ((with_reducible show WS _ _ (Stmt.Assign [Expr.Tuple _ _ _] _ _) _ _ _); refine ws_asg ?_))
theorem fn_divides {f : Addr} {fd : FuncData} (Fn : L2.Fun K "divides" "divides" st_divides f fd) :
    FnOk P w K mg base (L2.CX P w) 1 f fd ["number", "other"] (spG K TDivs) := by
  refine fn_ok Fn sc_divides rfl TDivs_len ?_
  intro cdv A outer s H E N hr ds M Q X' h
  obtain ⟨a, b, rfl, q⟩ := h
  show WB _ _ _ [some _, some _] _ _
  refine wb_one ?_
  walk_at "g"
  refine iteD (fun h0 => ?_) (fun h0 => ?_)
  · subst h0
    walk_at "g"
    rw [show decide ((0 : Int) ∣ b) = decide (b = 0) from by simp [Int.zero_dvd]] at q
    exact q
  · refine we_eq (by walk_at "u") (we_modN ?_)
    walk_at "g"
    rw [show decide (a ∣ b) = decide (b.fmod a = 0) from by
      by_cases h : a ∣ b
      · rw [decide_eq_true h, decide_eq_true (Int.fmod_eq_zero_of_dvd h)]
      · rw [decide_eq_false h, decide_eq_false fun z => h (Int.dvd_of_fmod_eq_zero z)]] at q
    all_goals first | exact q | exact h0
end
/-- two items fit -/
def Fit (x y : Int × Int) : Prop := (x.1 - y.1) ∣ (x.2 - y.2)
instance (x y : Int × Int) : Decidable (Fit x y) := inferInstanceAs (Decidable (_ ∣ _))
def TFit : TSp := fun ds M Q _ => ∃ x y, ds = [itemD x, itemD y] ∧ Q (.bl (decide (Fit x y))) M
theorem TFit_mono : Mono TFit := fun ds M Q Q' E E' h _ ⟨a, b, h1, h2⟩ => ⟨a, b, h1, h _ _ h2⟩
theorem TFit_len : ∀ ds M Q E, TFit ds M Q E → ds.length = 2 := fun ds M Q E h => by obtain ⟨_, _, rfl, _⟩ := h; rfl
/-- a book all of whose items fit -/
def PossOk (xs : List (Int × Int)) : Prop := BookOk xs ∧ ∀ x ∈ xs, ∀ y ∈ xs, Fit x y
def TConf0 : TSp := fun ds M Q _ => ∃ d xs, ds = [d] ∧ LV M d (bookD xs) ∧ PossOk xs ∧ ∀ p rest, Q (.cel p) (rest ++ (p, .lst []) :: M)
theorem TConf0_mono : Mono TConf0 := fun ds M Q Q' E E' h _ ⟨a, b, h1, h2, h3, h4⟩ => ⟨a, b, h1, h2, h3, fun p r => h _ _ (h4 p r)⟩
theorem TConf0_len : ∀ ds M Q E, TConf0 ds M Q E → ds.length = 1 := fun ds M Q E h => by obtain ⟨_, _, rfl, _⟩ := h; rfl
section
variable {P : Program} {w : World} {K : PySem.W.Frag} {mg : Str → Option Value} {base : Heap}
local macro_rules
  | `(tactic| walk_at "ok") => `(tactic| first
  | ((show BlkOk N_do_fit (defScope st_do_fit) _ _); exact blkOk_by (by decide +kernel)))
  | `(tactic| walk_at "eWECall") => `(tactic| first
  | ((with_reducible show WE _ _ (Expr.Call (Expr.Name _ _) _ _ _) _ _ _); walk_at "c"))
  | `(tactic| walk_at "n") => `(tactic| first
  | ((with_reducible refine gN "one" ?_); refine we_nm 0 rfl rfl ?_)
  | ((with_reducible refine gN "other" ?_); refine we_nm 1 rfl rfl ?_))
  | `(tactic| walk_at "t") => `(tactic| first
  | ((with_reducible show WS _ _ (Stmt.Assign [Expr.Tuple _ _ _] _ _) _ _ _); refine ws_asg ?_))
  | `(tactic| walk_at "c") => `(tactic| first
  | ((with_reducible refine gCK "divides" ?_); refine we_cl "divides" ?_))
theorem fn_do_fit {f : Addr} {fd : FuncData} (d_div : FD P w K mg base 1 "divides" 2 TDivs) (Fn : L2.Fun K "do_fit" "do_fit" st_do_fit f fd) :
    FnOk P w K mg base (L2.CX P w) 2 f fd ["one", "other"] (spG K TFit) := by
  refine fn_ok Fn sc_do_fit rfl TFit_len ?_
  intro cdv A outer s H E N hr ds M Q X' h
  obtain ⟨x, y, rfl, q⟩ := h
  show WB _ _ _ [some (.tup [.int x.1, .int x.2]), some (.tup [.int y.1, .int y.2])] _ _
  refine wb_one ?_
  walk_at "g"
  exact ⟨_, _, rfl, q⟩
end
section
variable {P : Program} {w : World} {K : PySem.W.Frag} {mg : Str → Option Value} {base : Heap}
local macro_rules
  | `(tactic| walk_at "ok") => `(tactic| first
  | ((show BlkOk N_conflicts_in (defScope st_conflicts_in) _ _); exact blkOk_by (by decide +kernel)))
  | `(tactic| walk_at "tS") => `(tactic| first
  | ((with_reducible refine gS "found" ?_); refine ws_st 1 ?_))
  | `(tactic| walk_at "tG") => `(tactic| first
  | ((with_reducible refine gG "first" ?_); refine wg_nm 2 ?_)
  | ((with_reducible refine gG "one" ?_); refine wg_nm 3 ?_)
  | ((with_reducible refine gG "second" ?_); refine wg_nm 4 ?_))
  | `(tactic| walk_at "eWECall") => `(tactic| first
  | ((with_reducible refine gC "len" ?_); refine we_len rfl (by assumption) ?_)
  | ((with_reducible show WE _ _ (Expr.Call (Expr.Name _ _) _ _ _) _ _ _); walk_at "c"))
  | `(tactic| walk_at "n") => `(tactic| first
  | ((with_reducible refine gN "book" ?_); refine we_nm 0 rfl rfl ?_)
  | ((with_reducible refine gN "found" ?_); refine we_nm 1 rfl rfl ?_)
  | ((with_reducible refine gN "first" ?_); refine we_nm 2 rfl rfl ?_)
  | ((with_reducible refine gN "second" ?_); refine we_nm 4 rfl rfl ?_)
  | ((with_reducible refine gN "one" ?_); refine we_nm 3 rfl rfl ?_))
  | `(tactic| walk_at "t") => `(tactic| first
  | ((with_reducible show WS _ _ (Stmt.Assign [Expr.Name _ _] _ _) _ _ _); walk_at "tS")
  | ((with_reducible show WG _ _ (Expr.Name _ _) _ _ _ _); walk_at "tG")
  | ((with_reducible show WS _ _ (Stmt.Assign [Expr.Tuple _ _ _] _ _) _ _ _); refine ws_asg ?_))
  | `(tactic| walk_at "c") => `(tactic| first
  | ((with_reducible refine gCK "do_fit" ?_); refine we_cl "do_fit" ?_))
  | `(tactic| walk_at "tg") => `(tactic| first
  | exact Tg.one (i := 4) rfl rfl)
theorem fn_conflicts_in {f : Addr} {fd : FuncData} (b_enum : mg "enumerate" = none) (b_range : mg "range" = none) (b_len : mg "len" = none) (d_fit : FD P w K mg base 2 "do_fit" 2 TFit) (Fn : L2.Fun K "conflicts_in" "conflicts_in" st_conflicts_in f fd) :
    FnOk P w K mg base (L2.CX P w) 3 f fd ["book"] (spG K TConf0) := by
  refine fn_ok Fn sc_conflicts_in rfl TConf0_len ?_
  intro cdv A outer s H E N hr ds M Q X' h
  obtain ⟨d, xs, rfl, hl, hb, q⟩ := h
  show WB _ _ _ [some _, none, none, none, none] _ _
  refine wb_cons ?_
  walk_at "t"
  refine we_lstC ?_
  walk_at "g"
  intro p
  walk_at "g"
  refine ws_for N (wi_enum rfl (by assumption) ?_)
  walk_at "g"
  refine ⟨_, bookD xs, rfl, hl.cons, fun j δ' M' => ∃ (x2 x3 x4 : Option D) (rest : Cells), δ' = [some d, some (.cel p), x2, x3, x4] ∧ M' = rest ++ (p, .lst []) :: M, ?_, ?_, ?_, ?_⟩
  · exact ⟨none, none, none, [], rfl, rfl⟩
  · rintro j δ' M' _ ⟨x2, x3, x4, rest, rfl, rfl⟩
    exact hl.cons.app rest
  · rintro j d' δ' M' hd ⟨x2, x3, x4, rest, rfl, rfl⟩
    obtain ⟨u, hu, rfl⟩ := enumD_inv hd
    unfold bookD at hu
    rw [List.getElem?_map] at hu
    cases e1 : xs[j]? with
    | none => rw [e1] at hu; cases hu
    | some x =>
      obtain rfl : u = itemD x := by rw [e1] at hu; exact (Option.some.inj hu).symm
      have hx := List.mem_of_getElem? e1
      have hlen := hb.1.1
      have hbl : (bookD xs).length = xs.length := by unfold bookD; rw [List.length_map]
      walk_at "s"
      walk_at "s"
      walk_at "t"
      walk_at "s"
      walk_at "t"
      walk_at "s"
      refine wb_drop (List.sublist_append_right _ _) ?_
      walk_at "g"
      refine we_extend ?_
      walk_at "g"
      refine we_lcF (fun _ => false) id N (by walk_at "tg") (by walk_at "ok") (wi_range2 rfl (by assumption) ?_)
      walk_at "g"
      refine Sq.len (.inl ⟨rfl, hl.cons⟩) ?_
      walk_at "g"
      have hj := (List.getElem?_eq_some_iff.mp e1).1
      refine ⟨_, _, rfl, ⟨by omega, by omega, by omega, by omega⟩, ?_, fun _ _ => trivial, ?_, ?_⟩
      · rw [rangeD_len, hbl, sizeLine_eq]; omega
      · intro i d2 acc p' hd2
        obtain ⟨hi, rfl⟩ := rangeD_inv hd2
        rw [hbl] at hi
        have hi2 : j + 1 + i < xs.length := by omega
        have ey : (bookD xs)[j + 1 + i]? = some (itemD xs[j + 1 + i]) := by unfold bookD; rw [List.getElem?_map, List.getElem?_eq_getElem hi2]; rfl
        refine ⟨_, rfl, fun B => ?_⟩
        walk_at "g"
        refine Sq.ix (.inl ⟨rfl, hl.cons.cons⟩) (z := itemD xs[j + 1 + i]) (by rw [show (j : Int) + 1 + (i : Nat) = ((j + 1 + i : Nat) : Int) by omega]; exact atI_nat ey) ?_
        walk_at "g"
        refine ⟨x, xs[j + 1 + i], rfl, ?_⟩
        rw [decide_eq_true (hb.2 x hx _ (List.getElem_mem hi2))]
        walk_at "g"
        all_goals first | rfl | exact ⟨rfl, rfl, fun z => absurd z (by decide)⟩ | exact ⟨rfl, fun z => absurd z (by decide)⟩
      · intro p'
        walk_at "g"
        refine ⟨p', 1, [], 0, [], rfl, rfl, by simp, by decide, ?_⟩
        walk_at "g"
        exact ⟨_, _, _, [_], rfl, rfl⟩
  · rintro δ' M' ⟨x2, x3, x4, rest, rfl, rfl⟩
    walk_at "g"
    exact q p rest
end
def TPoss : TSp := fun ds M Q _ => ∃ d xs, ds = [d] ∧ LV M d (bookD xs) ∧ PossOk xs ∧ Q .non M
theorem TPoss_mono : Mono TPoss := fun ds M Q Q' E E' h _ ⟨a, b, h1, h2, h3, h4⟩ => ⟨a, b, h1, h2, h3, h _ _ h4⟩
theorem TPoss_len : ∀ ds M Q E, TPoss ds M Q E → ds.length = 1 := fun ds M Q E h => by obtain ⟨_, _, rfl, _⟩ := h; rfl
section
variable {P : Program} {w : World} {K : PySem.W.Frag} {mg : Str → Option Value} {base : Heap}
local macro_rules
  | `(tactic| walk_at "ok") => `(tactic| first
  | ((show BlkOk N_conflict_in (defScope st_conflict_in) _ _); exact blkOk_by (by decide +kernel)))
  | `(tactic| walk_at "tS") => `(tactic| first
  | ((with_reducible refine gS "found" ?_); refine ws_st 1 ?_))
  | `(tactic| walk_at "eWECall") => `(tactic| first
  | ((with_reducible show WE _ _ (Expr.Call (Expr.Name _ _) _ _ _) _ _ _); walk_at "c"))
  | `(tactic| walk_at "n") => `(tactic| first
  | ((with_reducible refine gN "found" ?_); refine we_nm 1 rfl rfl ?_)
  | ((with_reducible refine gN "book" ?_); refine we_nm 0 rfl rfl ?_))
  | `(tactic| walk_at "t") => `(tactic| first
  | ((with_reducible show WS _ _ (Stmt.Assign [Expr.Name _ _] _ _) _ _ _); walk_at "tS")
  | ((with_reducible show WS _ _ (Stmt.Assign [Expr.Tuple _ _ _] _ _) _ _ _); refine ws_asg ?_))
  | `(tactic| walk_at "c") => `(tactic| first
  | ((with_reducible refine gCK "conflicts_in" ?_); refine we_cl "conflicts_in" ?_))
theorem fn_conflict_in {f : Addr} {fd : FuncData} (d_conf : FD P w K mg base 3 "conflicts_in" 1 TConf0) (Fn : L2.Fun K "conflict_in" "conflict_in" st_conflict_in f fd) :
    FnOk P w K mg base (L2.CX P w) 4 f fd ["book"] (spG K TPoss) := by
  refine fn_ok Fn sc_conflict_in rfl TPoss_len ?_
  intro cdv A outer s H E N hr ds M Q X' h
  obtain ⟨d, xs, rfl, hl, hb, q⟩ := h
  show WB _ _ _ [some _, none] _ _
  refine wb_cons ?_
  walk_at "g"
  refine ⟨d, xs, rfl, hl, hb, fun p rest => ?_⟩
  refine wb_drop (List.sublist_append_right _ _) ?_
  refine wb_one (ws_ret (WE.few ?_))
  walk_at "g"
  refine req_dN (p := .list []) (q := .list []) (.cl (ds := []) 0 rfl rfl) (.fz rfl) rfl rfl ?_
  refine ⟨_, rfl, iteQ rfl ?_⟩
  walk_at "g"
  exact ⟨M, List.sublist_cons_self _ _, q⟩
end
section
variable {P : Program} {w : World} {K : PySem.W.Frag} {mg : Str → Option Value} {base : Heap}
local macro_rules
  | `(tactic| walk_at "ok") => `(tactic| first
  | ((show BlkOk N_need_fitting (defScope st_need_fitting) _ _); exact blkOk_by (by decide +kernel)))
  | `(tactic| walk_at "tS") => `(tactic| first
  | ((with_reducible refine gS "conflict" ?_); refine ws_st 1 ?_))
  | `(tactic| walk_at "eWECall") => `(tactic| first
  | ((with_reducible show WE _ _ (Expr.Call (Expr.Name _ _) _ _ _) _ _ _); walk_at "c"))
  | `(tactic| walk_at "n") => `(tactic| first
  | ((with_reducible refine gN "conflict" ?_); refine we_nm 1 rfl rfl ?_)
  | ((with_reducible refine gN "book" ?_); refine we_nm 0 rfl rfl ?_))
  | `(tactic| walk_at "t") => `(tactic| first
  | ((with_reducible show WS _ _ (Stmt.Assign [Expr.Name _ _] _ _) _ _ _); walk_at "tS")
  | ((with_reducible show WS _ _ (Stmt.Assign [Expr.Tuple _ _ _] _ _) _ _ _); refine ws_asg ?_))
  | `(tactic| walk_at "c") => `(tactic| first
  | ((with_reducible refine gCK "conflict_in" ?_); refine we_cl "conflict_in" ?_))
theorem fn_need_fitting {f : Addr} {fd : FuncData} (d_conf : FD P w K mg base 4 "conflict_in" 1 TPoss) (Fn : L2.Fun K "need_fitting" "need_fitting" st_need_fitting f fd) :
    FnOk P w K mg base (L2.CX P w) 5 f fd ["book"] (spG K TPoss) := by
  refine fn_ok Fn sc_need_fitting rfl TPoss_len ?_
  intro cdv A outer s H E N hr ds M Q X' h
  obtain ⟨d, xs, rfl, hl, hb, q⟩ := h
  show WB _ _ _ [some _, none] _ _
  refine wb_cons ?_
  walk_at "g"
  refine ⟨d, xs, rfl, hl, hb, ?_⟩
  walk_at "g"
  exact q
end
section
variable {P : Program} {w : World} {K : PySem.W.Frag} {mg : Str → Option Value} {base : Heap}
local macro_rules
  | `(tactic| walk_at "ok") => `(tactic| first
  | ((show BlkOk N_need_possible (defScope st_need_possible) _ _); exact blkOk_by (by decide +kernel)))
  | `(tactic| walk_at "eWECall") => `(tactic| first
  | ((with_reducible show WE _ _ (Expr.Call (Expr.Name _ _) _ _ _) _ _ _); walk_at "c"))
  | `(tactic| walk_at "n") => `(tactic| first
  | ((with_reducible refine gN "book" ?_); refine we_nm 0 rfl rfl ?_))
  | `(tactic| walk_at "t") => `(tactic| first
  | ((with_reducible show WS _ _ (Stmt.Assign [Expr.Tuple _ _ _] _ _) _ _ _); refine ws_asg ?_))
  | `(tactic| walk_at "c") => `(tactic| first
  | ((with_reducible refine gCK "need_book" ?_); refine we_cl "need_book" ?_)
  | ((with_reducible refine gCK "need_fitting" ?_); refine we_cl "need_fitting" ?_))
theorem fn_need_possible {f : Addr} {fd : FuncData} (d_book : FD P w K mg base 5 "need_book" 1 TNeedBook) (d_fit : FD P w K mg base 5 "need_fitting" 1 TPoss) (Fn : L2.Fun K "need_possible" "need_possible" st_need_possible f fd) :
    FnOk P w K mg base (L2.CX P w) 6 f fd ["book"] (spG K TPoss) := by
  refine fn_ok Fn sc_need_possible rfl TPoss_len ?_
  intro cdv A outer s H E N hr ds M Q X' h
  obtain ⟨d, xs, rfl, hl, hb, q⟩ := h
  show WB _ _ _ [some _] _ _
  refine wb_cons ?_
  walk_at "g"
  refine ⟨d, xs, rfl, hl, hb.1, ?_⟩
  walk_at "g"
  refine ⟨d, xs, rfl, hl, hb, ?_⟩
  walk_at "g"
  exact q
end
/-! PuA -/
set_option exponentiation.threshold 100000
theorem getD_get {r : List Int} {k : Nat} (h : k < r.length) : (r.map D.int)[k]? = some (.int (r.getD k 0)) := by
  rw [List.getElem?_map, List.getD_eq_getElem?_getD, List.getElem?_eq_getElem h]; rfl
/-- a store of drawn digits; n: at most so many numbers were mixed -/
def StoreL (n : Nat) (L : List D) : Prop := ∃ a m c : Int, L = [.int a, .int m, .int c] ∧ 0 ≤ a ∧ 0 ≤ m ∧ m < 2 ^ 200 ∧ 0 ≤ c ∧ c ≤ n
theorem StoreL.up {n m : Nat} {L : List D} (h : StoreL n L) (k : n ≤ m) : StoreL m L := let ⟨a, b, c, h1, h2, h3, h4, h5, h6⟩ := h; ⟨a, b, c, h1, h2, h3, h4, h5, by omega⟩
def TPurse : TSp := fun ds M Q _ => ∃ (ns : List Int) (k : Nat), ds = [.lst (ns.map D.int), .int k] ∧ ns.length ≤ 1000 ∧ k ≤ 100 ∧ ∀ p L, StoreL 0 L → Q (.cel p) ((p, .lst L) :: M)
theorem TPurse_mono : Mono TPurse := fun ds M Q Q' E E' h _ ⟨ns, k, h1, h2, h3, h4⟩ => ⟨ns, k, h1, h2, h3, fun p L a => h _ _ (h4 p L a)⟩
theorem TPurse_len : ∀ ds M Q E, TPurse ds M Q E → ds.length = 2 := fun ds M Q E h => by obtain ⟨_, _, rfl, _⟩ := h; rfl
section
variable {P : Program} {w : World} {K : PySem.W.Frag} {mg : Str → Option Value} {base : Heap}
local macro_rules
  | `(tactic| walk_at "ok") => `(tactic| first
  | ((show BlkOk N_l_purse (defScope st_l_purse) _ _); exact blkOk_by (by decide +kernel)))
  | `(tactic| walk_at "tS") => `(tactic| first
  | ((with_reducible refine gS "_law_cell_here" ?_); refine ws_st 2 ?_))
  | `(tactic| walk_at "eWECall") => `(tactic| first
  | ((with_reducible refine gC "max" ?_); refine we_max2 rfl rfl (by assumption) ?_)
  | ((with_reducible refine gC "len" ?_); refine we_len rfl (by assumption) ?_)
  | ((with_reducible refine gC "abs" ?_); refine we_abs rfl (by assumption) ?_)
  | ((with_reducible refine gC "int" ?_); refine we_int2 rfl (by assumption) ?_))
  | `(tactic| walk_at "n") => `(tactic| first
  | ((with_reducible refine gN "_law_k" ?_); refine we_nm 1 rfl rfl ?_)
  | ((with_reducible refine gN "_law_script" ?_); refine we_nm 0 rfl rfl ?_)
  | ((with_reducible refine gN "_law_cell_here" ?_); refine we_nm 2 rfl rfl ?_)
  | ((with_reducible show WE _ _ (Expr.Name "int" _) _ _ _); refine we_bltn (v := .ty "int") rfl (by assumption) (by decide +kernel) rfl ?_))
  | `(tactic| walk_at "t") => `(tactic| first
  | ((with_reducible show WS _ _ (Stmt.Assign [Expr.Name _ _] _ _) _ _ _); walk_at "tS")
  | ((with_reducible show WS _ _ (Stmt.Assign [Expr.Tuple _ _ _] _ _) _ _ _); refine ws_asg ?_))
theorem fn_purse {f : Addr} {fd : FuncData} (b_abs : mg "abs" = none) (b_int : mg "int" = none) (b_len : mg "len" = none) (b_max : mg "max" = none) (Fn : L2.Fun K "_law_purse" "_law_purse" st_l_purse f fd) :
    FnOk P w K mg base (L2.CX P w) 1 f fd ["_law_script", "_law_k"] (spG K TPurse) := by
  refine fn_ok Fn sc_l_purse rfl TPurse_len ?_
  intro cdv A outer s H E N hr ds M Q X' h
  obtain ⟨ns, k, rfl, hns, hk, q⟩ := h
  show WB _ _ _ [some _, some _, none] _ _
  refine wb_cons ?_
  walk_at "g"
  have fin : ∀ a z : Int, 0 ≤ z → StoreL 0 [.int (if 0 < z - 10 ^ Int.toNat 18 then z - 10 ^ Int.toNat 18 else 0), .int (a % (10 ^ Int.toNat 41 + 37) * 89 + 60013 * (k : Int)), .int 0] := fun a z ha => by
    have e1 : (10 : Int) ^ Int.toNat 41 = 10 ^ 41 := rfl
    have h1 := Int.emod_nonneg a (show (10 : Int) ^ Int.toNat 41 + 37 ≠ 0 by decide)
    have h2 := Int.emod_lt_of_pos a (show (0 : Int) < 10 ^ Int.toNat 41 + 37 by decide)
    rw [e1] at h1 h2 ⊢
    refine ⟨_, _, _, rfl, ?_, by omega, by omega, by omega, by omega⟩
    split <;> omega
  refine iteD (fun hlt => ?_) (fun hlt => ?_)
  · rw [List.length_map] at hlt
    have hk2 : k < ns.length := by omega
    walk_at "g"
    refine ⟨.int (ns.getD k 0), atI_nat (getD_get hk2), ?_⟩
    walk_at "g"
    refine we_lstC ?_
    walk_at "g"
    refine ⟨_, _, rfl, ?_⟩
    walk_at "g"
    all_goals first
      | exact fun p => q p _ (fin _ _ (by split <;> omega))
      | exact ⟨by decide, by have := intBits_le (i := 10) (n := 4) (by decide); omega⟩
      | exact IntMulOk.of_right (by decide)
      | exact IntMulOk.of_left (by decide)
      | decide
      | skip
  · walk_at "g"
    refine we_lstC ?_
    walk_at "g"
    refine ⟨_, _, rfl, ?_⟩
    walk_at "g"
    all_goals first
      | exact fun p => q p _ (fin 0 0 (by decide))
      | exact ⟨by decide, by have := intBits_le (i := 10) (n := 4) (by decide); omega⟩
      | exact IntMulOk.of_right (by decide)
      | exact IntMulOk.of_left (by decide)
      | decide
      | skip
end
def TToss : TSp := fun ds M Q _ => ∃ (b : Addr) (bound : Int), ds = [.cel b, .int bound] ∧ 0 < bound ∧ bound < 2 ^ 8900 ∧ CL M b fun L f => ∃ n, StoreL n L ∧ n ≤ 1000000 ∧ ∀ r L', 0 ≤ r → r < bound → StoreL (n + 1) L' → Q (.int r) (f L')
theorem TToss_mono : Mono TToss := fun ds M Q Q' E E' h _ ⟨b, w, h1, h2, h3, h4⟩ => ⟨b, w, h1, h2, h3, h4.imp fun L f ⟨n, g1, g2, g3⟩ => ⟨n, g1, g2, fun r L' a b c => h _ _ (g3 r L' a b c)⟩⟩
theorem TToss_len : ∀ ds M Q E, TToss ds M Q E → ds.length = 2 := fun ds M Q E h => by obtain ⟨_, _, rfl, _⟩ := h; rfl
section
variable {P : Program} {w : World} {K : PySem.W.Frag} {mg : Str → Option Value} {base : Heap}
local macro_rules
  | `(tactic| walk_at "ok") => `(tactic| first
  | ((show BlkOk N_l_toss (defScope st_l_toss) _ _); exact blkOk_by (by decide +kernel)))
  | `(tactic| walk_at "tS") => `(tactic| first
  | ((with_reducible refine gS "_law_side" ?_); refine ws_st 2 ?_)
  | ((with_reducible refine gS "_law_mixed_here" ?_); refine ws_st 3 ?_))
  | `(tactic| walk_at "eWECall") => `(tactic| first
  | ((with_reducible refine gC "int" ?_); refine we_int2 rfl (by assumption) ?_))
  | `(tactic| walk_at "n") => `(tactic| first
  | ((with_reducible refine gN "_law_purse_here" ?_); refine we_nm 0 rfl rfl ?_)
  | ((with_reducible show WE _ _ (Expr.Name "int" _) _ _ _); refine we_bltn (v := .ty "int") rfl (by assumption) (by decide +kernel) rfl ?_)
  | ((with_reducible refine gN "_law_many" ?_); refine we_nm 1 rfl rfl ?_)
  | ((with_reducible refine gN "_law_mixed_here" ?_); refine we_nm 3 rfl rfl ?_)
  | ((with_reducible refine gN "_law_side" ?_); refine we_nm 2 rfl rfl ?_))
  | `(tactic| walk_at "t") => `(tactic| first
  | ((with_reducible show WS _ _ (Stmt.Assign [Expr.Name _ _] _ _) _ _ _); walk_at "tS")
  | ((with_reducible show WS _ _ (Stmt.Assign [Expr.Tuple _ _ _] _ _) _ _ _); refine ws_asg ?_))
theorem fn_toss {f : Addr} {fd : FuncData} (b_int : mg "int" = none) (Fn : L2.Fun K "_law_toss" "_law_toss" st_l_toss f fd) :
    FnOk P w K mg base (L2.CX P w) 1 f fd ["_law_purse_here", "_law_many"] (spG K TToss) := by
  refine fn_ok Fn sc_l_toss rfl TToss_len ?_
  intro cdv A outer s H E N hr ds M Q X' h
  obtain ⟨b, bound, rfl, hb0, hb1, k, L, hM, n, ⟨a, m, c, rfl, ha, hm0, hm1, hc0, hc1⟩, hn, q⟩ := h
  have hlog : bound.natAbs.log2 < 9000 := by have := log2_lt (i := bound) (n := 8900) (by omega) (by decide); omega
  show WB _ _ _ [some _, some _, none, none] _ _
  refine wb_cons ?_
  walk_at "g"
  refine iteD (fun hpos => ?_) (fun hpos => ?_)
  · walk_at "g"
    all_goals first
      | exact q _ _ (Int.emod_nonneg _ (by omega)) (Int.emod_lt_of_pos _ hb0) ⟨a / bound, m, c, rfl, Int.ediv_nonneg ha (by omega), hm0, hm1, hc0, by omega⟩
      | exact hb0
      | exact (⟨hb0, hlog⟩ : CDivW a bound)
  · have hp1 : ∀ i : Int, i.natAbs ≤ 2 ^ 400 → CPw i 3 := fun i hi => ⟨by decide, by
      have := intBits_le (i := i) (n := 401) (Nat.lt_of_le_of_lt hi (Nat.pow_lt_pow_right (by decide) (by decide)))
      omega⟩
    walk_at "g"
    all_goals first
      | exact q _ _ (Int.emod_nonneg _ (by omega)) (Int.emod_lt_of_pos _ hb0) ⟨a, m, c + 1, rfl, ha, hm0, hm1, by omega, by omega⟩
      | exact hb0
      | exact ⟨by decide, by have := intBits_le (i := 10) (n := 4) (by decide); omega⟩
      | exact (⟨by decide, by have := log2_lt (i := 1073741789) (n := 40) (by decide) (by decide); omega⟩ : CDivW _ 1073741789)
      | exact IntMulOk.of_left (by decide)
      | exact hp1 _ (by omega)
      | exact hp1 _ (by
          have h1 := Int.emod_nonneg ((m + 50000017 * (c + 1)) ^ Int.toNat 3) (show (10 : Int) ^ Int.toNat 45 + 9 ≠ 0 by decide)
          have h2 := Int.emod_lt_of_pos ((m + 50000017 * (c + 1)) ^ Int.toNat 3) (show (0 : Int) < 10 ^ Int.toNat 45 + 9 by decide)
          generalize (m + 50000017 * (c + 1)) ^ Int.toNat 3 % (10 ^ Int.toNat 45 + 9) = y at h1 h2 ⊢
          have e : (10 : Int) ^ Int.toNat 45 = 10 ^ 45 := rfl
          rw [e] at h2
          omega)
      | decide
      | skip
end
/-! VaA -/
set_option exponentiation.threshold 100000
def TGcd0 : TSp := fun ds M Q _ => ∃ a b : Int, ds = [.int a, .int b] ∧ 0 ≤ a ∧ 0 ≤ b ∧ Q (.int (Int.gcd a b)) M
theorem TGcd0_mono : Mono TGcd0 := fun ds M Q Q' E E' h _ ⟨a, b, h1, h2, h3, h4⟩ => ⟨a, b, h1, h2, h3, h _ _ h4⟩
theorem TGcd0_len : ∀ ds M Q E, TGcd0 ds M Q E → ds.length = 2 := fun ds M Q E h => by obtain ⟨_, _, rfl, _⟩ := h; rfl
theorem gcd_mod0 {u v : Int} (hu : 0 ≤ u) (hv : 0 < v) : Int.gcd v (u % v) = Int.gcd u v := by
  show Nat.gcd v.natAbs (u % v).natAbs = Nat.gcd u.natAbs v.natAbs
  rw [Int.natAbs_emod_of_nonneg hu, Nat.gcd_comm u.natAbs v.natAbs, Nat.gcd_rec v.natAbs u.natAbs, Nat.gcd_comm]
section
variable {P : Program} {w : World} {K : PySem.W.Frag} {mg : Str → Option Value} {base : Heap}
local macro_rules
  | `(tactic| walk_at "ok") => `(tactic| first
  | ((show BlkOk N_divisor_of (defScope st_divisor_of) _ _); exact blkOk_by (by decide +kernel)))
  | `(tactic| walk_at "tG") => `(tactic| first
  | ((with_reducible refine gG "one" ?_); refine wg_nm 0 ?_)
  | ((with_reducible refine gG "other" ?_); refine wg_nm 1 ?_))
  | `(tactic| walk_at "n") => `(tactic| first
  | ((with_reducible refine gN "other" ?_); refine we_nm 1 rfl rfl ?_)
  | ((with_reducible refine gN "one" ?_); refine we_nm 0 rfl rfl ?_))
  | `(tactic| walk_at "t") => `(tactic| first
  | ((with_reducible show WG _ _ (Expr.Name _ _) _ _ _ _); walk_at "tG")
  | ((with_reducible show WS _ _ (Stmt.Assign [Expr.Tuple [Expr.Name "one" _, Expr.Name "other" _] _ _] (Expr.Tuple _ _ _) _) _ _ _); first | refine ws_par (i := 0) (j := 1) (by assumption) rfl rfl (by decide) rfl rfl rfl ?_ | refine ws_asg ?_)
  | ((with_reducible show WS _ _ (Stmt.Assign [Expr.Tuple _ _ _] _ _) _ _ _); refine ws_asg ?_))
theorem fn_divisor_of {f : Addr} {fd : FuncData} (Fn : L2.Fun K "divisor_of" "divisor_of" st_divisor_of f fd) :
    FnOk P w K mg base (L2.CX P w) 1 f fd ["one", "other"] (spG K TGcd0) := by
  refine fn_ok Fn sc_divisor_of rfl TGcd0_len ?_
  intro cdv A outer s H E N hr ds M Q X' h
  obtain ⟨a, b, rfl, ha, hb, q⟩ := h
  show WB _ _ _ [some _, some _] _ _
  refine wb_cons ?_
  refine ws_while N (fun m δ' M' => ∃ u v : Int, δ' = [some (.int u), some (.int v)] ∧ M' = M ∧ 0 ≤ u ∧ 0 ≤ v ∧ Int.gcd u v = Int.gcd a b ∧ m = v.toNat) ⟨_, a, b, rfl, rfl, ha, hb, rfl, rfl⟩ ?_
  rintro m δ' M' ⟨u, v, rfl, rfl, hu, hv, hg, rfl⟩
  walk_at "g"
  by_cases h0 : v = 0
  · refine iteQ (by rw [decide_eq_true h0]; rfl) ?_
    walk_at "g"
    subst h0
    rw [← hg, Int.gcd_zero_right, show ((u.natAbs : Nat) : Int) = u by omega] at q
    exact q
  · refine iteP (by rw [decide_eq_false h0]; rfl) ?_
    walk_at "g"
    rotate_left 1
    · omega
    refine ⟨_, _, rfl, ?_⟩
    refine ⟨_, ?_, v, u % v, rfl, rfl, hv, Int.emod_nonneg _ h0, ?_, rfl⟩
    · have := Int.emod_lt_of_pos u (show 0 < v by omega)
      have := Int.emod_nonneg u h0
      omega
    · rw [← hg, gcd_mod0 hu (by omega)]
end
theorem bits_of {i : Int} {n : Nat} (h : i.natAbs ≤ 2 ^ n) (hn : n < 2 ^ 20) : Builtin.Int.intBits i ≤ 2 ^ 20 := by
  have h2 : i.natAbs < 2 ^ (n + 1) := Nat.lt_of_le_of_lt h (Nat.pow_lt_pow_right (by decide) (by omega))
  have := intBits_le h2
  omega
theorem bt {i : Int} {k : Nat} (h : i.natAbs ≤ 2 ^ k) (hk : k ≤ 8000) : Builtin.Int.intBits i ≤ 2 ^ 20 := bits_of h (by omega)
theorem lg {i : Int} {k : Nat} (h : i.natAbs ≤ 2 ^ k) (hk : k ≤ 8000) : i.natAbs.log2 < 9000 := by
  have := log2_lt (i := i) (n := k + 1) (Nat.lt_of_le_of_lt h (Nat.pow_lt_pow_right (by decide) (by omega))) (by omega)
  omega
/-- a factor -/
def TInv : TSp := fun ds M Q _ => ∃ n m : Int, ds = [.int n, .int m] ∧ 0 ≤ n ∧ n.natAbs ≤ 2 ^ 4000 ∧ 0 < m ∧ m.natAbs ≤ 2 ^ 4000 ∧ ∀ r : Int, 0 ≤ r → r < m → m ∣ (Int.gcd n m : Int) - r * n → Q (.int r) M
theorem TInv_mono : Mono TInv := fun ds M Q Q' E E' h _ ⟨n, m, h1, h2, h3, h4, h5, h6⟩ => ⟨n, m, h1, h2, h3, h4, h5, fun r a b c => h _ _ (h6 r a b c)⟩
theorem TInv_len : ∀ ds M Q E, TInv ds M Q E → ds.length = 2 := fun ds M Q E h => by obtain ⟨_, _, rfl, _⟩ := h; rfl
section
variable {P : Program} {w : World} {K : PySem.W.Frag} {mg : Str → Option Value} {base : Heap}
local macro_rules
  | `(tactic| walk_at "ok") => `(tactic| first
  | ((show BlkOk N_inverse_of (defScope st_inverse_of) _ _); exact blkOk_by (by decide +kernel)))
  | `(tactic| walk_at "tS") => `(tactic| first
  | ((with_reducible refine gS "share" ?_); refine ws_st 6 ?_))
  | `(tactic| walk_at "tG") => `(tactic| first
  | ((with_reducible refine gG "one" ?_); refine wg_nm 2 ?_)
  | ((with_reducible refine gG "other" ?_); refine wg_nm 3 ?_)
  | ((with_reducible refine gG "factor" ?_); refine wg_nm 4 ?_)
  | ((with_reducible refine gG "former" ?_); refine wg_nm 5 ?_))
  | `(tactic| walk_at "n") => `(tactic| first
  | ((with_reducible refine gN "other" ?_); refine we_nm 3 rfl rfl ?_)
  | ((with_reducible refine gN "modulus" ?_); refine we_nm 1 rfl rfl ?_)
  | ((with_reducible refine gN "one" ?_); refine we_nm 2 rfl rfl ?_)
  | ((with_reducible refine gN "factor" ?_); refine we_nm 4 rfl rfl ?_)
  | ((with_reducible refine gN "former" ?_); refine we_nm 5 rfl rfl ?_)
  | ((with_reducible refine gN "share" ?_); refine we_nm 6 rfl rfl ?_)
  | ((with_reducible refine gN "number" ?_); refine we_nm 0 rfl rfl ?_))
  | `(tactic| walk_at "t") => `(tactic| first
  | ((with_reducible show WS _ _ (Stmt.Assign [Expr.Name _ _] _ _) _ _ _); walk_at "tS")
  | ((with_reducible show WG _ _ (Expr.Name _ _) _ _ _ _); walk_at "tG")
  | ((with_reducible show WS _ _ (Stmt.Assign [Expr.Tuple _ _ _] _ _) _ _ _); refine ws_asg ?_))
theorem fn_inverse_of {f : Addr} {fd : FuncData} (Fn : L2.Fun K "inverse_of" "inverse_of" st_inverse_of f fd) :
    FnOk P w K mg base (L2.CX P w) 1 f fd ["number", "modulus"] (spG K TInv) := by
  refine fn_ok Fn sc_inverse_of rfl TInv_len ?_
  intro cdv A outer s H E N hr ds M Q X' h
  obtain ⟨n, m, rfl, hn, hnb, hm, hmb, q⟩ := h
  show WB _ _ _ [some _, some _, none, none, none, none, none] _ _
  refine wb_cons ?_
  walk_at "g"
  · refine ws_while N (fun mm δ' M' => ∃ (a b x y : Int) (sh : Option D), δ' = [some (.int n), some (.int m), some (.int a), some (.int b), some (.int x), some (.int y), sh] ∧ M' = M ∧ Eu m n a b x y ∧ a ≤ m ∧ b ≤ m ∧ mm = b.toNat) ⟨_, m, n % m, 0, 1, none, rfl, rfl, Eu.start1 hn hm, Int.le_refl _, Int.le_of_lt (Int.emod_lt_of_pos _ hm), rfl⟩ ?_
    rintro mm δ' M' ⟨a, b, x, y, sh, rfl, rfl, eu, ha, hb, rfl⟩
    have eb := eu.b0
    have ea := eu.a0
    have ex := eu.hx
    have ey := eu.hy
    walk_at "g"
    refine iteN (fun h0 => ?_) (fun h0 => ?_)
    · have hbp : 0 < b := by omega
      have st := eu.step h0
      have hq0 : 0 ≤ a / b := Int.ediv_nonneg ea eb
      have hq1 : a / b ≤ a := Int.ediv_le_self b ea
      have hr1 := Int.emod_lt_of_pos a hbp
      have e1 : a - a / b * b = a % b := by have := Int.emod_add_mul_ediv a b; rw [Int.mul_comm] at this; omega
      have big : ∀ i : Int, i.natAbs ≤ m.natAbs → i.natAbs ≤ 2 ^ 4000 := fun i hi => Nat.le_trans hi hmb
      clear hmb hnb
      walk_at "g"
      all_goals first
        | exact ⟨hbp, by have := lg (big b (by omega)) (by decide); omega⟩
        | exact IntMulOk.of_bits (bt (big _ (by omega)) (by decide)) (bt (big _ (by omega)) (by decide))
        | skip
      refine ⟨_, ?_, b, a % b, y, x - a / b * y, some (.int (a / b)), by rw [e1]; rfl, rfl, st, hb, by omega, rfl⟩
      have := Int.emod_nonneg a h0
      omega
    · subst h0
      walk_at "g"
      rotate_left 1
      · have st := eu.stop
        have e2 := Int.emod_add_mul_ediv x m
        refine q _ (Int.emod_nonneg _ (by omega)) (Int.emod_lt_of_pos _ hm) ?_
        have e3 : (Int.gcd n m : Int) - x % m * n = ((Int.gcd n m : Int) - x * n) + m * (x / m * n) := by
          have : x * n = x % m * n + m * (x / m * n) := by
            conv => lhs; rw [← e2]
            rw [Int.add_mul, Int.mul_assoc]
          omega
        rw [e3]
        exact Int.dvd_add st (Int.dvd_mul_right _ _)
      · exact hm
  · exact hm
end
theorem abs_ediv (z : Int) {d : Int} (hd : 0 < d) : (z / d).natAbs ≤ z.natAbs := by
  by_cases h : z < 0
  · have a := Int.ediv_neg_of_neg_of_pos h hd
    have b : z ≤ z / d := Int.le_ediv_of_mul_le hd (by
      have : z * d ≤ z * 1 := Int.mul_le_mul_of_nonpos_left (by omega) (by omega)
      omega)
    omega
  · have a := Int.ediv_nonneg (show 0 ≤ z by omega) (Int.le_of_lt hd)
    have b := Int.ediv_le_self d (show 0 ≤ z by omega)
    omega
theorem two_le {a b : Int} {k : Nat} (ha : a.natAbs ≤ 2 ^ k) (hb : b.natAbs ≤ 2 ^ k) : (a - b).natAbs ≤ 2 ^ (k + 1) := by
  rw [Nat.pow_succ]
  omega
/-- two classes met: X lies in both -/
def TMet : TSp := fun ds M Q _ => ∃ r1 m1 r2 m2 X : Int, ds = [.tup [.int r1, .int m1], .tup [.int r2, .int m2]] ∧ 0 < m1 ∧ m1.natAbs ≤ 2 ^ 3500 ∧ 0 < m2 ∧ m2.natAbs ≤ 2 ^ 300 ∧ 0 ≤ r1 ∧ r1 < m1 ∧ r2.natAbs ≤ 2 ^ 3500 ∧ m1 ∣ X - r1 ∧ m2 ∣ X - r2 ∧
  ∀ R, 0 ≤ R → R < m1 * (m2 / (Int.gcd m1 m2 : Int)) → m1 * (m2 / (Int.gcd m1 m2 : Int)) ∣ X - R → Q (.tup [.int R, .int (m1 * (m2 / (Int.gcd m1 m2 : Int)))]) M
theorem TMet_mono : Mono TMet := fun ds M Q Q' E E' h _ ⟨r1, m1, r2, m2, X, h1, h2, h3, h4, h5, h6, h7, h8, h9, h10, h11⟩ => ⟨r1, m1, r2, m2, X, h1, h2, h3, h4, h5, h6, h7, h8, h9, h10, fun R a b c => h _ _ (h11 R a b c)⟩
theorem TMet_len : ∀ ds M Q E, TMet ds M Q E → ds.length = 2 := fun ds M Q E h => by obtain ⟨_, _, _, _, _, rfl, _⟩ := h; rfl
section
variable {P : Program} {w : World} {K : PySem.W.Frag} {mg : Str → Option Value} {base : Heap}
local macro_rules
  | `(tactic| walk_at "ok") => `(tactic| first
  | ((show BlkOk N_met (defScope st_met) _ _); exact blkOk_by (by decide +kernel)))
  | `(tactic| walk_at "tS") => `(tactic| first
  | ((with_reducible refine gS "divisor" ?_); refine ws_st 2 ?_)
  | ((with_reducible refine gS "part" ?_); refine ws_st 3 ?_)
  | ((with_reducible refine gS "rounds" ?_); refine ws_st 4 ?_))
  | `(tactic| walk_at "eWECall") => `(tactic| first
  | ((with_reducible show WE _ _ (Expr.Call (Expr.Name _ _) _ _ _) _ _ _); walk_at "c"))
  | `(tactic| walk_at "n") => `(tactic| first
  | ((with_reducible refine gN "one" ?_); refine we_nm 0 rfl rfl ?_)
  | ((with_reducible refine gN "other" ?_); refine we_nm 1 rfl rfl ?_)
  | ((with_reducible refine gN "divisor" ?_); refine we_nm 2 rfl rfl ?_)
  | ((with_reducible refine gN "part" ?_); refine we_nm 3 rfl rfl ?_)
  | ((with_reducible refine gN "rounds" ?_); refine we_nm 4 rfl rfl ?_))
  | `(tactic| walk_at "t") => `(tactic| first
  | ((with_reducible show WS _ _ (Stmt.Assign [Expr.Name _ _] _ _) _ _ _); walk_at "tS")
  | ((with_reducible show WS _ _ (Stmt.Assign [Expr.Tuple _ _ _] _ _) _ _ _); refine ws_asg ?_))
  | `(tactic| walk_at "c") => `(tactic| first
  | ((with_reducible refine gCK "divisor_of" ?_); refine we_cl "divisor_of" ?_)
  | ((with_reducible refine gCK "inverse_of" ?_); refine we_cl "inverse_of" ?_))
theorem fn_met {f : Addr} {fd : FuncData} (d_gcd : FD P w K mg base 1 "divisor_of" 2 TGcd0) (d_inv : FD P w K mg base 1 "inverse_of" 2 TInv) (Fn : L2.Fun K "met" "met" st_met f fd) :
    FnOk P w K mg base (L2.CX P w) 2 f fd ["one", "other"] (spG K TMet) := by
  refine fn_ok Fn sc_met rfl TMet_len ?_
  intro cdv A outer s H E N hr ds M Q X' h
  obtain ⟨r1, m1, r2, m2, X, rfl, h1, h1b, h2, h2b, hr0, hr1, hrb, c1, c2, q⟩ := h
  have hd : 0 < (Int.gcd m1 m2 : Int) := by
    have : 0 < Int.gcd m1 m2 := Int.gcd_pos_of_ne_zero_left _ (by omega)
    omega
  have d1 : (Int.gcd m1 m2 : Int) ∣ m1 := Int.gcd_dvd_left ..
  have d2 : (Int.gcd m1 m2 : Int) ∣ m2 := Int.gcd_dvd_right ..
  have hd2 : (Int.gcd m1 m2 : Int) ≤ m2 := Int.le_of_dvd h2 d2
  show WB _ _ _ [some _, some _, none, none, none] _ _
  refine wb_cons ?_
  walk_at "g"
  refine ⟨m1, m2, rfl, by omega, by omega, ?_⟩
  have a0 : 0 ≤ m1 / (Int.gcd m1 m2 : Int) := Int.ediv_nonneg (by omega) (by omega)
  have b0 : 0 < m2 / (Int.gcd m1 m2 : Int) := Int.ediv_pos_of_pos_of_dvd h2 (by omega) d2
  have cop : Int.gcd (m1 / (Int.gcd m1 m2 : Int)) (m2 / (Int.gcd m1 m2 : Int)) = 1 := Int.gcd_ediv_gcd_ediv_gcd (by omega)
  have g1 : m1.natAbs ≤ 2 ^ 4000 := Nat.le_trans h1b (Nat.pow_le_pow_right (by decide) (by decide))
  have g2 : m2.natAbs ≤ 2 ^ 4000 := Nat.le_trans h2b (Nat.pow_le_pow_right (by decide) (by decide))
  have ga : (m1 / (Int.gcd m1 m2 : Int)).natAbs ≤ 2 ^ 4000 := Nat.le_trans (abs_ediv m1 hd) g1
  have gb : (m2 / (Int.gcd m1 m2 : Int)).natAbs ≤ 2 ^ 4000 := Nat.le_trans (abs_ediv m2 hd) g2
  have gr : ((r2 - r1) / (Int.gcd m1 m2 : Int)).natAbs ≤ 2 ^ 3501 := Nat.le_trans (abs_ediv _ hd) (two_le hrb (Nat.le_trans (by omega) h1b))
  have gd : (Int.gcd m1 m2 : Int).natAbs ≤ 2 ^ 4000 := Nat.le_trans (by omega) g2
  have lgd := lg gd (by decide)
  have law := fun f => met_law (X := X) (r1 := r1) (r2 := r2) (f := f) h1 h2 c1 c2
  generalize (Int.gcd m1 m2 : Int) = d at *
  generalize hA : m1 / d = a at *
  generalize hB : m2 / d = b at *
  clear g2 h2b hrb
  walk_at "g"
  all_goals first
    | exact ⟨hd, by omega⟩
    | skip
  rw [hA, hB]
  refine ⟨a, b, rfl, a0, ga, b0, gb, fun f f0 f1 hf => ?_⟩
  rw [cop] at hf
  have hf2 := law f hf
  have gf : f.natAbs ≤ 2 ^ 4000 := Nat.le_trans (by omega) gb
  have rn0 := Int.emod_nonneg ((r2 - r1) / d * f) (show b ≠ 0 by omega)
  have rn1 := Int.emod_lt_of_pos ((r2 - r1) / d * f) b0
  have grn : ((r2 - r1) / d * f % b).natAbs ≤ 2 ^ 4000 := Nat.le_trans (by omega) gb
  walk_at "g"
  all_goals first
    | exact IntMulOk.of_bits (bt gr (by decide)) (bt gf (by decide))
    | exact IntMulOk.of_bits (bt g1 (by decide)) (bt grn (by decide))
    | exact IntMulOk.of_bits (bt g1 (by decide)) (bt gb (by decide))
    | exact b0
    | skip
  generalize (r2 - r1) / d * f % b = rn at *
  refine q _ ?_ ?_ hf2
  · have : 0 ≤ m1 * rn := Int.mul_nonneg (by omega) rn0
    omega
  · have : m1 * rn ≤ m1 * (b - 1) := Int.mul_le_mul_of_nonneg_left (by omega) (by omega)
    rw [Int.mul_sub] at this
    omega
end
/-! VaB -/
set_option exponentiation.threshold 100000
/-- the class of what can stand at pl: X fits all -/
def TClsBy : TSp := fun ds M Q _ => ∃ (d : D) (xs : List (Int × Int)) (pl X : Int) (n b : Nat), ds = [d, .int pl] ∧ LV M d (bookD xs) ∧ (xs.length ≤ n ∧ b ≤ 110 ∧ (b + 2) * n ≤ 3500) ∧ (∀ x ∈ xs, x.1.natAbs ≤ 2 ^ b) ∧ pl.natAbs ≤ 2 ^ b ∧ (∀ x ∈ xs, (pl - x.1) ∣ (X - x.2)) ∧
  ((∃ x ∈ xs, x.1 = pl) → Q (.tup [.int X, .int 0]) M) ∧ ((∀ x ∈ xs, x.1 ≠ pl) → ∀ L, IsL (xs.map fun x => pl - x.1) L → Q (.tup [.int (X % L), .int L]) M)
theorem TClsBy_mono : Mono TClsBy := fun ds M Q Q' E E' h _ ⟨d, xs, pl, X, n, b, h1, h2, h3, h4, h5, h6, h7, h8⟩ => ⟨d, xs, pl, X, n, b, h1, h2, h3, h4, h5, h6, fun a => h _ _ (h7 a), fun a L b => h _ _ (h8 a L b)⟩
theorem TClsBy_len : ∀ ds M Q E, TClsBy ds M Q E → ds.length = 2 := fun ds M Q E h => by obtain ⟨_, _, _, _, _, _, rfl, _⟩ := h; rfl
section
variable {P : Program} {w : World} {K : PySem.W.Frag} {mg : Str → Option Value} {base : Heap}
local macro_rules
  | `(tactic| walk_at "ok") => `(tactic| first
  | ((show BlkOk N_class_by (defScope st_class_by) _ _); exact blkOk_by (by decide +kernel)))
  | `(tactic| walk_at "tS") => `(tactic| first
  | ((with_reducible refine gS "found" ?_); refine ws_st 2 ?_)
  | ((with_reducible refine gS "far" ?_); refine ws_st 5 ?_))
  | `(tactic| walk_at "tG") => `(tactic| first
  | ((with_reducible refine gG "told" ?_); refine wg_nm 3 ?_)
  | ((with_reducible refine gG "value" ?_); refine wg_nm 4 ?_))
  | `(tactic| walk_at "eWECall") => `(tactic| first
  | ((with_reducible refine gC "abs" ?_); refine we_abs rfl (by assumption) ?_)
  | ((with_reducible show WE _ _ (Expr.Call (Expr.Name _ _) _ _ _) _ _ _); walk_at "c"))
  | `(tactic| walk_at "n") => `(tactic| first
  | ((with_reducible refine gN "place" ?_); refine we_nm 1 rfl rfl ?_)
  | ((with_reducible refine gN "found" ?_); refine we_nm 2 rfl rfl ?_)
  | ((with_reducible refine gN "told" ?_); refine we_nm 3 rfl rfl ?_)
  | ((with_reducible refine gN "value" ?_); refine we_nm 4 rfl rfl ?_)
  | ((with_reducible refine gN "far" ?_); refine we_nm 5 rfl rfl ?_)
  | ((with_reducible refine gN "items" ?_); refine we_nm 0 rfl rfl ?_))
  | `(tactic| walk_at "t") => `(tactic| first
  | ((with_reducible show WS _ _ (Stmt.Assign [Expr.Name _ _] _ _) _ _ _); walk_at "tS")
  | ((with_reducible show WG _ _ (Expr.Name _ _) _ _ _ _); walk_at "tG")
  | ((with_reducible show WS _ _ (Stmt.Assign [Expr.Tuple _ _ _] _ _) _ _ _); refine ws_asg ?_))
  | `(tactic| walk_at "c") => `(tactic| first
  | ((with_reducible refine gCK "met" ?_); refine we_cl "met" ?_))
theorem fn_class_by {f : Addr} {fd : FuncData} (b_abs : mg "abs" = none) (d_met : FD P w K mg base 2 "met" 2 TMet) (Fn : L2.Fun K "class_by" "class_by" st_class_by f fd) :
    FnOk P w K mg base (L2.CX P w) 3 f fd ["items", "place"] (spG K TClsBy) := by
  refine fn_ok Fn sc_class_by rfl TClsBy_len ?_
  intro cdv A outer s H E N hr ds M Q X' h
  obtain ⟨d, xs, pl, X, nn, bb, rfl, hl, ⟨h24, hb110, hnb⟩, hb, hpl, hX, q1, q2⟩ := h
  show WB _ _ _ [some _, some _, none, none, none, none] _ _
  refine wb_cons ?_
  walk_at "g"
  refine ws_for N (wi_list ?_)
  walk_at "g"
  refine ⟨_, hl, fun j δ' M' => ∃ (R L : Int) (x3 x4 x5 : Option D), δ' = [some d, some (.int pl), some (.tup [.int R, .int L]), x3, x4, x5] ∧ M' = M ∧ IsL ((xs.take j).map fun x => pl - x.1) L ∧ (∀ x ∈ xs.take j, x.1 ≠ pl) ∧ L.natAbs ≤ 2 ^ ((bb + 2) * j) ∧ 0 ≤ R ∧ R < L ∧ L ∣ X - R, ?_, ?_, ?_, ?_⟩
  · exact ⟨0, 1, none, none, none, rfl, rfl, IsL.nil, by simp, by simp, by decide, by decide, Int.one_dvd _⟩
  · rintro i δ' M' _ ⟨R, L, x3, x4, x5, rfl, rfl, _⟩
    exact hl
  · rintro j d1 δ' M' hd ⟨R, L, x3, x4, x5, rfl, rfl, hL, hne, hLb, hR0, hR1, hRX⟩
    obtain ⟨⟨u, v⟩, hx, rfl⟩ : ∃ x, xs[j]? = some x ∧ d1 = itemD x := by
      unfold bookD at hd
      rw [List.getElem?_map] at hd
      cases hxj : xs[j]? with
      | none => rw [hxj] at hd; cases hd
      | some x => rw [hxj] at hd; exact ⟨x, rfl, (Option.some.inj hd).symm⟩
    have hxm := List.mem_of_getElem? hx
    have hj : j < xs.length := (List.getElem?_eq_some_iff.mp hx).1
    have ub : u.natAbs ≤ 2 ^ bb := hb _ hxm
    have dv : (pl - u) ∣ (X - v) := hX _ hxm
    show WG _ _ _ (D.tup [.int u, .int v]) _ _ _
    walk_at "g"
    refine iteD (fun h0 => ?_) (fun h0 => ?_)
    · walk_at "g"
      have : X = v := by
        rw [h0, Int.sub_self, Int.zero_dvd] at dv
        omega
      rw [← this]
      exact q1 ⟨_, hxm, h0⟩
    · walk_at "g"
      rotate_left 1
      · split <;> omega
      have tk : xs.take (j + 1) = xs.take j ++ [(u, v)] := by rw [List.take_add_one, hx]; rfl
      have fe : (if pl - u < 0 then -(pl - u) else pl - u) = pl - u ∨ (if pl - u < 0 then -(pl - u) else pl - u) = -(pl - u) := by split <;> omega
      have f0 : 0 < (if pl - u < 0 then -(pl - u) else pl - u) := by split <;> omega
      have fb : (if pl - u < 0 then -(pl - u) else pl - u).natAbs ≤ 2 ^ (bb + 1) := by
        have := two_le hpl ub
        split <;> omega
      generalize (if pl - u < 0 then -(pl - u) else pl - u) = far at *
      have dv2 : far ∣ X - v % far := by
        have h1 : far ∣ X - v := by
          rcases fe with e | e
          · rw [e]; exact dv
          · rw [e]; exact Int.neg_dvd.mpr dv
        have h2 := Int.emod_add_mul_ediv v far
        have : X - v % far = (X - v) + far * (v / far) := by omega
        rw [this]
        exact Int.dvd_add h1 (Int.dvd_mul_right _ _)
      all_goals first
        | exact f0
        | skip
      have v0 := Int.emod_nonneg v (show far ≠ 0 by omega)
      have v1 := Int.emod_lt_of_pos v f0
      refine ⟨R, L, v % far, far, X, rfl, hL.1, Nat.le_trans hLb (Nat.pow_le_pow_right (by decide) (Nat.le_trans (Nat.mul_le_mul (Nat.le_refl _) (show j ≤ nn by omega)) (Nat.le_trans hnb (by decide)))), f0, Nat.le_trans fb (Nat.pow_le_pow_right (by decide) (by omega)), hR0, hR1, Nat.le_trans (show (v % far).natAbs ≤ far.natAbs by omega) (Nat.le_trans fb (Nat.pow_le_pow_right (by decide) (by omega))), hRX, dv2, fun R' a0 a1 a2 => ?_⟩
      walk_at "g"
      have gp : 0 < (Int.gcd L far : Int) := by
        have : 0 < Int.gcd L far := Int.gcd_pos_of_ne_zero_right _ (by omega)
        omega
      refine ⟨R', _, _, _, _, rfl, rfl, ?_, ?_, ?_, a0, a1, a2⟩
      · rw [tk, List.map_append]
        exact hL.snoc f0 fe
      · rw [tk]
        intro x hx
        rcases List.mem_append.mp hx with hx | hx
        · exact hne x hx
        · rw [List.mem_singleton.mp hx]; exact h0
      · rw [Int.natAbs_mul, show (bb + 2) * (j + 1) = (bb + 2) * j + (bb + 2) from Nat.mul_succ .., Nat.pow_add]
        exact Nat.mul_le_mul hLb (Nat.le_trans (abs_ediv far gp) (Nat.le_trans fb (Nat.pow_le_pow_right (by decide) (by omega))))
  · rintro δ' M' ⟨R, L, x3, x4, x5, rfl, rfl, hL, hne, hLb, hR0, hR1, hRX⟩
    have e : xs.take (bookD xs).length = xs := by unfold bookD; rw [List.length_map, List.take_length]
    rw [e] at hL hne
    walk_at "g"
    have : X % L = R := by
      have h := Int.emod_emod_of_dvd X (Int.dvd_refl L)
      have a := Int.emod_eq_emod_iff_emod_sub_eq_zero.mpr (Int.emod_eq_zero_of_dvd hRX)
      rw [a, Int.emod_eq_of_lt hR0 hR1]
    rw [← this]
    exact q2 hne L hL
end
/-! PuB -/
set_option exponentiation.threshold 100000
/-- the greatest common divisor of any two -/
def TGcdA : TSp := fun ds M Q _ => ∃ a b : Int, ds = [.int a, .int b] ∧ Q (.int (Int.gcd a b)) M
theorem TGcdA_mono : Mono TGcdA := fun ds M Q Q' E E' h _ ⟨a, b, h1, h2⟩ => ⟨a, b, h1, h _ _ h2⟩
theorem TGcdA_len : ∀ ds M Q E, TGcdA ds M Q E → ds.length = 2 := fun ds M Q E h => by obtain ⟨_, _, rfl, _⟩ := h; rfl
theorem gcd_fmod (u v : Int) : Int.gcd v (u.fmod v) = Int.gcd u v := by
  have e : u.fmod v = u + -(u.fdiv v) * v := by have := Int.fmod_add_mul_fdiv u v; rw [Int.neg_mul, Int.mul_comm (u.fdiv v)]; omega
  rw [e, Int.gcd_add_mul_right_right, Int.gcd_comm]
theorem fmod_lt (u : Int) {v : Int} (h : v ≠ 0) : (u.fmod v).natAbs < v.natAbs := by
  rcases Int.lt_or_gt_of_ne h with g | g
  · have h := Int.neg_fmod_neg (-u) (-v)
    rw [Int.neg_neg, Int.neg_neg] at h
    have a := Int.fmod_nonneg_of_pos (-u) (show 0 < -v by omega)
    have b := Int.fmod_lt_of_pos (-u) (show 0 < -v by omega)
    omega
  · have a := Int.fmod_nonneg_of_pos u g
    have b := Int.fmod_lt_of_pos u g
    omega
section
variable {P : Program} {w : World} {K : PySem.W.Frag} {mg : Str → Option Value} {base : Heap}
local macro_rules
  | `(tactic| walk_at "ok") => `(tactic| first
  | ((show BlkOk N_l_divisor (defScope st_l_divisor) _ _); exact blkOk_by (by decide +kernel)))
  | `(tactic| walk_at "tG") => `(tactic| first
  | ((with_reducible refine gG "_law_a" ?_); refine wg_nm 0 ?_)
  | ((with_reducible refine gG "_law_b" ?_); refine wg_nm 1 ?_))
  | `(tactic| walk_at "eWECall") => `(tactic| first
  | ((with_reducible refine gC "abs" ?_); refine we_abs rfl (by assumption) ?_)
  | ((with_reducible refine gC "int" ?_); refine we_int2 rfl (by assumption) ?_))
  | `(tactic| walk_at "n") => `(tactic| first
  | ((with_reducible refine gN "_law_b" ?_); refine we_nm 1 rfl rfl ?_)
  | ((with_reducible refine gN "_law_a" ?_); refine we_nm 0 rfl rfl ?_)
  | ((with_reducible show WE _ _ (Expr.Name "int" _) _ _ _); refine we_bltn (v := .ty "int") rfl (by assumption) (by decide +kernel) rfl ?_))
  | `(tactic| walk_at "t") => `(tactic| first
  | ((with_reducible show WG _ _ (Expr.Name _ _) _ _ _ _); walk_at "tG")
  | ((with_reducible show WS _ _ (Stmt.Assign [Expr.Tuple [Expr.Name "_law_a" _, Expr.Name "_law_b" _] _ _] (Expr.Tuple _ _ _) _) _ _ _); first | refine ws_par (i := 0) (j := 1) (by assumption) rfl rfl (by decide) rfl rfl rfl ?_ | refine ws_asg ?_)
  | ((with_reducible show WS _ _ (Stmt.Assign [Expr.Tuple _ _ _] _ _) _ _ _); refine ws_asg ?_))
theorem fn_ldivisor {f : Addr} {fd : FuncData} (b_abs : mg "abs" = none) (b_int : mg "int" = none) (Fn : L2.Fun K "_law_divisor" "_law_divisor" st_l_divisor f fd) :
    FnOk P w K mg base (L2.CX P w) 1 f fd ["_law_a", "_law_b"] (spG K TGcdA) := by
  refine fn_ok Fn sc_l_divisor rfl TGcdA_len ?_
  intro cdv A outer s H E N hr ds M Q X' h
  obtain ⟨a, b, rfl, q⟩ := h
  show WB _ _ _ [some _, some _] _ _
  refine wb_cons ?_
  refine ws_while N (fun m δ' M' => ∃ u v : Int, δ' = [some (.int u), some (.int v)] ∧ M' = M ∧ Int.gcd u v = Int.gcd a b ∧ m = v.natAbs) ⟨_, a, b, rfl, rfl, rfl, rfl⟩ ?_
  rintro m δ' M' ⟨u, v, rfl, rfl, hg, rfl⟩
  walk_at "g"
  refine iteN (fun h0 => ?_) (fun h0 => ?_)
  · refine wb_cons ?_
    walk_at "t"
    refine wa_cons ?_
    walk_at "n"
    refine wa_cons (we_modN ?_)
    walk_at "g"
    all_goals first
      | exact h0
      | skip
    refine ⟨_, _, rfl, ?_⟩
    refine wb_nil ?_
    refine ⟨_, ?_, v, u.fmod v, rfl, rfl, ?_, rfl⟩
    · exact fmod_lt u h0
    · rw [gcd_fmod, hg]
  · subst h0
    walk_at "g"
    rw [show (if u < 0 then -u else u) = (Int.gcd a b : Int) by rw [← hg, Int.gcd_zero_right]; split <;> omega]
    exact q
end
/-- the least common multiple -/
def TMulL : TSp := fun ds M Q _ => ∃ (d : D) (ns : List Int), ds = [d] ∧ LV M d (ns.map D.int) ∧ ns.length ≤ 30 ∧ (∀ n ∈ ns, n ≠ 0 ∧ n.natAbs ≤ 2 ^ 120) ∧ ∀ L, IsL ns L → Q (.int L) M
theorem TMulL_mono : Mono TMulL := fun ds M Q Q' E E' h _ ⟨d, ns, h1, h2, h3, h4, h5⟩ => ⟨d, ns, h1, h2, h3, h4, fun L a => h _ _ (h5 L a)⟩
theorem TMulL_len : ∀ ds M Q E, TMulL ds M Q E → ds.length = 1 := fun ds M Q E h => by obtain ⟨_, _, rfl, _⟩ := h; rfl
section
variable {P : Program} {w : World} {K : PySem.W.Frag} {mg : Str → Option Value} {base : Heap}
local macro_rules
  | `(tactic| walk_at "ok") => `(tactic| first
  | ((show BlkOk N_l_multiple (defScope st_l_multiple) _ _); exact blkOk_by (by decide +kernel)))
  | `(tactic| walk_at "tS") => `(tactic| first
  | ((with_reducible refine gS "_law_found" ?_); refine ws_st 1 ?_))
  | `(tactic| walk_at "tG") => `(tactic| first
  | ((with_reducible refine gG "_law_far" ?_); refine wg_nm 2 ?_))
  | `(tactic| walk_at "eWECall") => `(tactic| first
  | ((with_reducible refine gC "abs" ?_); refine we_abs rfl (by assumption) ?_)
  | ((with_reducible show WE _ _ (Expr.Call (Expr.Name _ _) _ _ _) _ _ _); walk_at "c"))
  | `(tactic| walk_at "n") => `(tactic| first
  | ((with_reducible refine gN "_law_found" ?_); refine we_nm 1 rfl rfl ?_)
  | ((with_reducible refine gN "_law_far" ?_); refine we_nm 2 rfl rfl ?_)
  | ((with_reducible refine gN "_law_some" ?_); refine we_nm 0 rfl rfl ?_))
  | `(tactic| walk_at "t") => `(tactic| first
  | ((with_reducible show WS _ _ (Stmt.Assign [Expr.Name _ _] _ _) _ _ _); walk_at "tS")
  | ((with_reducible show WG _ _ (Expr.Name _ _) _ _ _ _); walk_at "tG")
  | ((with_reducible show WS _ _ (Stmt.Assign [Expr.Tuple _ _ _] _ _) _ _ _); refine ws_asg ?_))
  | `(tactic| walk_at "c") => `(tactic| first
  | ((with_reducible refine gCK "_law_divisor" ?_); refine we_cl "_law_divisor" ?_))
theorem fn_lmultiple {f : Addr} {fd : FuncData} (b_abs : mg "abs" = none) (d_gcd : FD P w K mg base 1 "_law_divisor" 2 TGcdA) (Fn : L2.Fun K "_law_multiple" "_law_multiple" st_l_multiple f fd) :
    FnOk P w K mg base (L2.CX P w) 2 f fd ["_law_some"] (spG K TMulL) := by
  refine fn_ok Fn sc_l_multiple rfl TMulL_len ?_
  intro cdv A outer s H E N hr ds M Q X' h
  obtain ⟨d, ns, rfl, hl, h30, hns, q⟩ := h
  show WB _ _ _ [some _, none, none] _ _
  refine wb_cons ?_
  walk_at "g"
  refine ws_for N (wi_list ?_)
  walk_at "g"
  refine ⟨_, hl, fun j δ' M' => ∃ (L : Int) (x2 : Option D), δ' = [some d, some (.int L), x2] ∧ M' = M ∧ IsL (ns.take j) L ∧ L.natAbs ≤ 2 ^ (120 * j), ?_, ?_, ?_, ?_⟩
  · exact ⟨1, none, rfl, rfl, IsL.nil, by simp⟩
  · rintro i δ' M' _ ⟨L, x2, rfl, rfl, _⟩
    exact hl
  · rintro j d1 δ' M' hd ⟨L, x2, rfl, rfl, hL, hLb⟩
    obtain ⟨n, hn, rfl⟩ : ∃ n, ns[j]? = some n ∧ d1 = .int n := by
      rw [List.getElem?_map] at hd
      cases hx : ns[j]? with
      | none => rw [hx] at hd; cases hd
      | some x => rw [hx] at hd; exact ⟨x, rfl, (Option.some.inj hd).symm⟩
    obtain ⟨n0, nb⟩ := hns n (List.mem_of_getElem? hn)
    have hj : j < ns.length := (List.getElem?_eq_some_iff.mp hn).1
    have L0 := hL.1
    walk_at "g"
    refine iteD (fun z => by omega) (fun _ => ?_)
    walk_at "g"
    refine iteD (fun z => absurd z n0) (fun _ => ?_)
    walk_at "g"
    refine ⟨L, n, rfl, ?_⟩
    have ge : (if n < 0 then -n else n) = n ∨ (if n < 0 then -n else n) = -n := by split <;> omega
    have g0 : 0 < (if n < 0 then -n else n) := by split <;> omega
    have gb : (if n < 0 then -n else n).natAbs ≤ 2 ^ 120 := by split <;> omega
    have gg : (Int.gcd L n : Int) = (Int.gcd L (if n < 0 then -n else n) : Int) := by
      rcases ge with e | e
      · rw [e]
      · rw [e, Int.gcd_neg]
    have gp : 0 < (Int.gcd L n : Int) := by
      have : 0 < Int.gcd L n := Int.gcd_pos_of_ne_zero_right _ n0
      omega
    have dL : (Int.gcd L n : Int) ∣ L := Int.gcd_dvd_left ..
    have dn : (Int.gcd L n : Int) ∣ (if n < 0 then -n else n) := by rw [gg]; exact Int.gcd_dvd_right ..
    have gle : (Int.gcd L n : Int) ≤ (if n < 0 then -n else n) := Int.le_of_dvd g0 dn
    have sn := hL.snoc g0 ge
    rw [← gg] at sn
    have eqv : L / (Int.gcd L n : Int) * (if n < 0 then -n else n) = L * ((if n < 0 then -n else n) / (Int.gcd L n : Int)) := by
      obtain ⟨a, ha⟩ := dL
      obtain ⟨b, hb⟩ := dn
      rw [Int.ediv_eq_of_eq_mul_right (by omega) ha, Int.ediv_eq_of_eq_mul_right (by omega) hb]
      conv => lhs; rw [hb]
      conv => rhs; rw [ha]
      rw [← Int.mul_assoc, Int.mul_comm a]
    generalize (Int.gcd L n : Int) = dd at *
    have Lb2 : L.natAbs ≤ 2 ^ 3600 := Nat.le_trans hLb (Nat.pow_le_pow_right (by decide) (by omega))
    walk_at "g"
    · exact IntMulOk.of_bits (bt (Nat.le_trans (abs_ediv L gp) Lb2) (by decide)) (bt gb (by decide))
    · rw [eqv]
      refine ⟨_, _, rfl, rfl, ?_, ?_⟩
      · rw [List.take_add_one, hn]
        exact sn
      · rw [Int.natAbs_mul, show 120 * (j + 1) = 120 * j + 120 by omega, Nat.pow_add]
        exact Nat.mul_le_mul hLb (Nat.le_trans (abs_ediv _ gp) gb)
    · exact ⟨gp, by have := lg (i := dd) (k := 120) (by omega) (by decide); omega⟩
  · rintro δ' M' ⟨L, x2, rfl, rfl, hL, hLb⟩
    rw [List.length_map, List.take_length] at hL
    walk_at "g"
    exact q L hL
end
/-! VaC -/
set_option exponentiation.threshold 100000
/-- the class at a place of a possible book -/
def TClsAt : TSp := fun ds M Q E => TClsBy ds M Q E ∧ ∃ (d : D) (xs : List (Int × Int)) (pl : Int), ds = [d, .int pl] ∧ LV M d (bookD xs) ∧ PossOk xs
theorem TClsAt_mono : Mono TClsAt := fun ds M Q Q' E E' h h' ⟨a, b⟩ => ⟨TClsBy_mono ds M Q Q' E E' h h' a, b⟩
theorem TClsAt_len : ∀ ds M Q E, TClsAt ds M Q E → ds.length = 2 := fun ds M Q E h => TClsBy_len ds M Q E h.1
section
variable {P : Program} {w : World} {K : PySem.W.Frag} {mg : Str → Option Value} {base : Heap}
local macro_rules
  | `(tactic| walk_at "ok") => `(tactic| first
  | ((show BlkOk N_class_at (defScope st_class_at) _ _); exact blkOk_by (by decide +kernel)))
  | `(tactic| walk_at "eWECall") => `(tactic| first
  | ((with_reducible show WE _ _ (Expr.Call (Expr.Name _ _) _ _ _) _ _ _); walk_at "c"))
  | `(tactic| walk_at "n") => `(tactic| first
  | ((with_reducible refine gN "book" ?_); refine we_nm 0 rfl rfl ?_)
  | ((with_reducible refine gN "place" ?_); refine we_nm 1 rfl rfl ?_))
  | `(tactic| walk_at "t") => `(tactic| first
  | ((with_reducible show WS _ _ (Stmt.Assign [Expr.Tuple _ _ _] _ _) _ _ _); refine ws_asg ?_))
  | `(tactic| walk_at "c") => `(tactic| first
  | ((with_reducible refine gCK "need_possible" ?_); refine we_cl "need_possible" ?_)
  | ((with_reducible refine gCK "class_by" ?_); refine we_cl "class_by" ?_))
theorem fn_class_at {f : Addr} {fd : FuncData} (d_poss : FD P w K mg base 6 "need_possible" 1 TPoss) (d_cls : FD P w K mg base 3 "class_by" 2 TClsBy) (Fn : L2.Fun K "class_at" "class_at" st_class_at f fd) :
    FnOk P w K mg base (L2.CX P w) 7 f fd ["book", "place"] (spG K TClsAt) := by
  refine fn_ok Fn sc_class_at rfl TClsAt_len ?_
  intro cdv A outer s H E N hr ds M Q X' h
  obtain ⟨h, d, xs, pl, rfl, hl, hp⟩ := h
  show WB _ _ _ [some _, some _] _ _
  refine wb_cons ?_
  walk_at "g"
  refine ⟨_, xs, rfl, hl, hp, ?_⟩
  walk_at "g"
  exact h
end
/-! PuC -/
set_option exponentiation.threshold 100000
theorem getD_past {r : List Int} {k : Nat} (h : r.length ≤ k) : r.getD k 0 = 0 := by
  rw [List.getD_eq_getElem?_getD, List.getElem?_eq_none h]; rfl
/-- a drawn row: its integers, from where it is counted, how far its places go -/
structure RowOk (own : List Int) (sh reach : Int) : Prop where
  l1 : 1 ≤ own.length
  l9 : own.length ≤ 9
  bd : ∀ c ∈ own, c.natAbs ≤ 2 ^ 100
  s0 : -4 ≤ sh
  s1 : sh ≤ 4
  r0 : 12 ≤ reach
  r1 : reach ≤ 10 ^ 29
  sm : ∀ x : Int, x.natAbs ≤ reach.natAbs + 60 → (valF own x).natAbs ≤ 10 ^ 30
theorem ttoss {b : Addr} {bound : Int} {M : Cells} {Q : D → Cells → Prop} {E : Ex → Cells → Prop} (h0 : 0 < bound) (h1 : bound < 2 ^ 300) (h : CL M b fun L f => ∃ n, StoreL n L ∧ n ≤ 1000000 ∧ ∀ r L', 0 ≤ r → r < bound → StoreL (n + 1) L' → Q (.int r) (f L')) : TToss [.cel b, .int bound] M Q E := ⟨b, bound, rfl, h0, Int.lt_trans h1 (by decide), h⟩
theorem ttossB {b : Addr} {bound : Int} {M : Cells} {Q : D → Cells → Prop} {E : Ex → Cells → Prop} (h0 : 0 < bound) (h1 : bound < 2 ^ 8900) (h : CL M b fun L f => ∃ n, StoreL n L ∧ n ≤ 1000000 ∧ ∀ r L', 0 ≤ r → r < bound → StoreL (n + 1) L' → Q (.int r) (f L')) : TToss [.cel b, .int bound] M Q E := ⟨b, bound, rfl, h0, h1, h⟩
def rowD (own : List Int) (sh reach : Int) : D := .lst [.lst (own.map D.int), .int sh, .int reach]
def TRowP : TSp := fun ds M Q _ => ∃ (b : Addr), ds = [.cel b] ∧ CL M b fun L f => ∃ n, StoreL n L ∧ n ≤ 900000 ∧ ∀ own sh reach L', RowOk own sh reach → StoreL (n + 30) L' → Q (rowD own sh reach) (f L')
theorem TRowP_mono : Mono TRowP := fun ds M Q Q' E E' h _ ⟨b, h1, h4⟩ => ⟨b, h1, h4.imp fun L f ⟨n, g1, g2, g3⟩ => ⟨n, g1, g2, fun own sh reach L' a b => h _ _ (g3 own sh reach L' a b)⟩⟩
theorem TRowP_len : ∀ ds M Q E, TRowP ds M Q E → ds.length = 1 := fun ds M Q E h => by obtain ⟨_, rfl, _⟩ := h; rfl
/-- a style: the top of its integers, how many more, how far -/
def Sty (st top many reach : Int) : Prop := (st = 0 ∧ top = 9 ∧ many = 1 ∧ reach = 10 ^ 29) ∨ (st = 1 ∧ top = 10 ^ 14 ∧ many = 1 ∧ reach = 10 ^ 14) ∨ (st = 2 ∧ top = 10 ^ 6 ∧ many = 2 ∧ reach = 10 ^ 9) ∨
  (st = 3 ∧ top = 10 ^ 6 ∧ many = 3 ∧ reach = 10 ^ 6) ∨ (st = 4 ∧ top = 10 ^ 3 ∧ many = 5 ∧ reach = 10 ^ 3) ∨ (st = 5 ∧ top = 99 ∧ many = 8 ∧ reach = 12)
theorem sty_ok {st top many reach : Int} (h : Sty st top many reach) {own : List Int} {sh : Int} (l1 : 1 ≤ own.length) (l2 : (own.length : Int) ≤ many + 1) (h0 : (own.getD 0 0).natAbs ≤ 10 ^ 28) (ht : ∀ k, 1 ≤ k → (own.getD k 0).natAbs ≤ top.natAbs) (s0 : -4 ≤ sh) (s1 : sh ≤ 4) : RowOk own sh reach := by
  have bd : top.natAbs ≤ 10 ^ 28 → ∀ c ∈ own, c.natAbs ≤ 2 ^ 100 := fun hb c hc => by
    obtain ⟨k, hk⟩ := List.getElem?_of_mem hc
    have e : own.getD k 0 = c := by rw [List.getD_eq_getElem?_getD, hk]; rfl
    by_cases k0 : k = 0
    · rw [k0] at e; rw [← e]; exact Nat.le_trans h0 (by decide)
    · rw [← e]; exact Nat.le_trans (ht k (by omega)) (Nat.le_trans hb (by decide))
  have sm : ∀ (n B : Nat), own.length ≤ n + 1 → reach.natAbs + 60 + n ≤ B → 1 ≤ B → 10 ^ 28 + n * (top.natAbs * B ^ n) ≤ 10 ^ 30 → ∀ x : Int, x.natAbs ≤ reach.natAbs + 60 → (valF own x).natAbs ≤ 10 ^ 30 := fun n B a b c e x hx =>
    Nat.le_trans (valF_small l1 a (by omega) c h0 ht) e
  rcases h with ⟨_, rfl, rfl, rfl⟩ | ⟨_, rfl, rfl, rfl⟩ | ⟨_, rfl, rfl, rfl⟩ | ⟨_, rfl, rfl, rfl⟩ | ⟨_, rfl, rfl, rfl⟩ | ⟨_, rfl, rfl, rfl⟩
  · exact ⟨l1, by omega, bd (by decide), s0, s1, by decide, by decide, sm 1 (10 ^ 29 + 61) (by omega) (by decide) (by decide) (by decide)⟩
  · exact ⟨l1, by omega, bd (by decide), s0, s1, by decide, by decide, sm 1 (10 ^ 14 + 61) (by omega) (by decide) (by decide) (by decide)⟩
  · exact ⟨l1, by omega, bd (by decide), s0, s1, by decide, by decide, sm 2 (10 ^ 9 + 62) (by omega) (by decide) (by decide) (by decide)⟩
  · exact ⟨l1, by omega, bd (by decide), s0, s1, by decide, by decide, sm 3 (10 ^ 6 + 63) (by omega) (by decide) (by decide) (by decide)⟩
  · exact ⟨l1, by omega, bd (by decide), s0, s1, by decide, by decide, sm 5 (10 ^ 3 + 65) (by omega) (by decide) (by decide) (by decide)⟩
  · exact ⟨l1, by omega, bd (by decide), s0, s1, by decide, by decide, sm 8 (12 + 68) (by omega) (by decide) (by decide) (by decide)⟩
section
variable {P : Program} {w : World} {K : PySem.W.Frag} {mg : Str → Option Value} {base : Heap}
local macro_rules
  | `(tactic| walk_at "ok") => `(tactic| first
  | ((show BlkOk N_l_row (defScope st_l_row) _ _); exact blkOk_by (by decide +kernel)))
  | `(tactic| walk_at "tS") => `(tactic| first
  | ((with_reducible refine gS "_law_style" ?_); refine ws_st 1 ?_)
  | ((with_reducible refine gS "_law_top" ?_); refine ws_st 2 ?_)
  | ((with_reducible refine gS "_law_own" ?_); refine ws_st 3 ?_))
  | `(tactic| walk_at "tG") => `(tactic| first
  | ((with_reducible refine gG "_law_turn" ?_); refine wg_nm 4 ?_))
  | `(tactic| walk_at "eWECall") => `(tactic| first
  | ((with_reducible show WE _ _ (Expr.Call (Expr.Name _ _) _ _ _) _ _ _); walk_at "c")
  | ((with_reducible show WE _ _ (Expr.Call (Expr.Attribute _ "append" _) _ _ _) _ _ _); refine we_append ?_))
  | `(tactic| walk_at "n") => `(tactic| first
  | ((with_reducible refine gN "_law_purse_here" ?_); refine we_nm 0 rfl rfl ?_)
  | ((with_reducible refine gN "_law_style" ?_); refine we_nm 1 rfl rfl ?_)
  | ((with_reducible refine gN "_law_top" ?_); refine we_nm 2 rfl rfl ?_)
  | ((with_reducible refine gN "_law_own" ?_); refine we_nm 3 rfl rfl ?_))
  | `(tactic| walk_at "t") => `(tactic| first
  | ((with_reducible show WS _ _ (Stmt.Assign [Expr.Name _ _] _ _) _ _ _); walk_at "tS")
  | ((with_reducible show WG _ _ (Expr.Name _ _) _ _ _ _); walk_at "tG")
  | ((with_reducible show WS _ _ (Stmt.Assign [Expr.Tuple _ _ _] _ _) _ _ _); refine ws_asg ?_))
  | `(tactic| walk_at "c") => `(tactic| first
  | ((with_reducible refine gCK "_law_toss" ?_); refine we_cl "_law_toss" ?_))
theorem fn_lrow {f : Addr} {fd : FuncData} (b_range : mg "range" = none) (d_toss : FD P w K mg base 1 "_law_toss" 2 TToss) (Fn : L2.Fun K "_law_row" "_law_row" st_l_row f fd) :
    FnOk P w K mg base (L2.CX P w) 2 f fd ["_law_purse_here"] (spG K TRowP) := by
  refine fn_ok Fn sc_l_row rfl TRowP_len ?_
  intro cdv A outer s H E N hr ds M Q X' h
  obtain ⟨b, rfl, k, L, hM, n, hL, hn, q⟩ := h
  show WB _ _ _ [some _, none, none, none, none] _ _
  refine wb_cons ?_
  walk_at "g"
  refine ttoss (by decide) (by decide) (cl_k hM ⟨n, hL, by omega, fun st L1 h0 h1 hL1 => ?_⟩)
  walk_at "g"
  refine we_lst ?_
  walk_at "g"
  all_goals first
    | exact ⟨by decide, by have := intBits_le (i := 10) (n := 4) (by decide); omega⟩
    | skip
  have e6 : st = 0 ∨ st = 1 ∨ st = 2 ∨ st = 3 ∨ st = 4 ∨ st = 5 := by omega
  obtain ⟨top, many, reach, hs, htop, hmany, hreach⟩ : ∃ top many reach, Sty st top many reach ∧ atI [D.int 9, D.int (10 ^ Int.toNat 14), D.int (10 ^ Int.toNat 6), D.int (10 ^ Int.toNat 6), D.int (10 ^ Int.toNat 3), D.int 99] st = some (.int top) ∧
      atI [D.int 1, D.int 1, D.int 2, D.int 3, D.int 5, D.int 8] st = some (.int many) ∧ atI [D.int (10 ^ Int.toNat 29), D.int (10 ^ Int.toNat 14), D.int (10 ^ Int.toNat 9), D.int (10 ^ Int.toNat 6), D.int (10 ^ Int.toNat 3), D.int 12] st = some (.int reach) := by
    unfold Sty
    rcases e6 with rfl | rfl | rfl | rfl | rfl | rfl
    · exact ⟨9, 1, 10 ^ 29, .inl ⟨rfl, rfl, rfl, rfl⟩, rfl, rfl, rfl⟩
    · exact ⟨10 ^ 14, 1, 10 ^ 14, .inr (.inl ⟨rfl, rfl, rfl, rfl⟩), rfl, rfl, rfl⟩
    · exact ⟨10 ^ 6, 2, 10 ^ 9, .inr (.inr (.inl ⟨rfl, rfl, rfl, rfl⟩)), rfl, rfl, rfl⟩
    · exact ⟨10 ^ 6, 3, 10 ^ 6, .inr (.inr (.inr (.inl ⟨rfl, rfl, rfl, rfl⟩))), rfl, rfl, rfl⟩
    · exact ⟨10 ^ 3, 5, 10 ^ 3, .inr (.inr (.inr (.inr (.inl ⟨rfl, rfl, rfl, rfl⟩)))), rfl, rfl, rfl⟩
    · exact ⟨99, 8, 12, .inr (.inr (.inr (.inr (.inr ⟨rfl, rfl, rfl, rfl⟩)))), rfl, rfl, rfl⟩
  have ht : 9 ≤ top ∧ top ≤ 10 ^ 14 ∧ 1 ≤ many ∧ many ≤ 8 := by
    rcases hs with ⟨_, rfl, rfl, _⟩ | ⟨_, rfl, rfl, _⟩ | ⟨_, rfl, rfl, _⟩ | ⟨_, rfl, rfl, _⟩ | ⟨_, rfl, rfl, _⟩ | ⟨_, rfl, rfl, _⟩ <;> decide
  refine ⟨_, htop, ?_⟩
  walk_at "g"
  refine we_lstC ?_
  walk_at "g"
  refine we_lst ?_
  walk_at "g"
  refine ttoss (by decide) (by decide) (cl_set hM ⟨_, hL1, by omega, fun r1 L2 h20 h21 hL2 => ?_⟩)
  all_goals first
    | exact ⟨by decide, by have := intBits_le (i := 10) (n := 4) (by decide); omega⟩
    | skip
  obtain ⟨wd, hwd, hw1, hw2⟩ : ∃ wd : Int, atI [D.int 9, D.int (10 ^ Int.toNat 28)] r1 = some (.int wd) ∧ 1 ≤ wd ∧ wd ≤ 10 ^ 28 := by
    have : r1 = 0 ∨ r1 = 1 := by omega
    rcases this with rfl | rfl
    · exact ⟨9, rfl, by decide, by decide⟩
    · exact ⟨10 ^ Int.toNat 28, rfl, by decide, by decide⟩
  refine rix_l ⟨_, hwd, ?_⟩
  walk_at "g"
  refine ttoss (by omega) (by omega) (cl_set hM ⟨_, hL2, by omega, fun r0 L3 h30 h31 hL3 => ?_⟩)
  walk_at "g"
  intro p
  walk_at "g"
  refine ws_for N (wi_range1 rfl (by assumption) ?_)
  walk_at "g"
  refine we_lst ?_
  walk_at "g"
  refine ⟨_, hmany, ?_⟩
  walk_at "g"
  refine ttoss (by omega) (by omega) (cl_skip (cl_set hM ⟨_, hL3, by omega, fun rr L4 h40 h41 hL4 => ?_⟩))
  walk_at "g"
  refine ⟨by omega, by omega, fun j δ' M' => ∃ (x4 : Option D) (own : List Int) (L' : List D), δ' = [some (.cel b), some (.int st), some (.int top), some (.cel p), x4] ∧ M' = (p, .lst (own.map D.int)) :: M.set k (b, .lst L') ∧ own.length = 1 + j ∧ (own.getD 0 0).natAbs ≤ 10 ^ 28 ∧ (∀ k, 1 ≤ k → (own.getD k 0).natAbs ≤ top.natAbs) ∧ StoreL (n + 1 + 1 + 1 + 1 + j) L', ?_, fun _ _ _ _ _ => trivial, ?_, ?_⟩
  · refine ⟨none, [r0], L4, rfl, rfl, rfl, ?_, fun k hk => ?_, hL4⟩
    · show r0.natAbs ≤ _
      omega
    · rw [getD_past (by show 1 ≤ k; exact hk)]
      exact Nat.zero_le _
  · rintro j d δ' M' hd ⟨x4, own, L', rfl, rfl, ho1, ho2, ho3, hL'⟩
    obtain ⟨hj, rfl⟩ := rangeD_inv hd
    have hj8 : (j : Int) < many := by omega
    walk_at "g"
    rotate_left 1
    · exact IntMulOk.of_left (by decide)
    refine ttoss (by omega) (by omega) (cl_skip (cl_set hM ⟨_, hL', by omega, fun r6 L6 h60 h61 hL6 => ?_⟩))
    walk_at "g"
    refine ⟨by rw [List.length_map, sizeLine_eq]; omega, ?_⟩
    refine ⟨_, own ++ [r6 - top], L6, rfl, by rw [List.map_append]; rfl, by rw [List.length_append, ho1]; rfl, ?_, fun k hk => ?_, hL6⟩
    · rw [List.getD_eq_getElem?_getD, List.getElem?_append_left (by omega), ← List.getD_eq_getElem?_getD]
      exact ho2
    · by_cases hk2 : k < own.length
      · rw [List.getD_eq_getElem?_getD, List.getElem?_append_left hk2, ← List.getD_eq_getElem?_getD]
        exact ho3 k hk
      · by_cases hk3 : k = own.length
        · rw [List.getD_eq_getElem?_getD, List.getElem?_append_right (by omega), hk3, Nat.sub_self]
          show (r6 - top).natAbs ≤ _
          omega
        · rw [getD_past (by rw [List.length_append]; show own.length + 1 ≤ k; omega)]
          exact Nat.zero_le _
  · rintro δ' M' ⟨x4, own, L', rfl, rfl, ho1, ho2, ho3, hL'⟩
    rw [rangeD_len] at ho1 hL'
    refine wb_one (ws_ret ?_)
    refine we_lst ?_
    refine wa_cons (we_froz 0 ?_)
    walk_at "g"
    refine ⟨p, _, rfl, rfl, ?_⟩
    walk_at "g"
    refine ttoss (by decide) (by decide) (cl_set hM ⟨_, hL', by omega, fun r5 L5 h50 h51 hL5 => ?_⟩)
    walk_at "g"
    refine we_lst ?_
    walk_at "g"
    all_goals first
      | exact ⟨by decide, by have := intBits_le (i := 10) (n := 4) (by decide); omega⟩
      | skip
    refine ⟨_, hreach, ?_⟩
    walk_at "g"
    exact q own (r5 - 4) reach L5 (sty_ok hs (by omega) (by omega) ho2 ho3 (by omega) (by omega)) (hL5.up (by omega))
end
/-! PuD -/
set_option exponentiation.threshold 100000
theorem isL_lc (k : Nat) : IsL [lc k, ((k : Int) + 1)] (lc (k + 1)) := by
  have h1 : IsL [lc k] (lc k) := ⟨lc_pos k, fun z => ⟨fun h f hf => by rw [List.mem_singleton.mp hf]; exact h, fun h => h _ (List.mem_singleton.mpr rfl)⟩⟩
  have h2 := h1.snoc (f := (k : Int) + 1) (g := (k : Int) + 1) (by omega) (.inl rfl)
  have e : lc (k + 1) = lc k * (((k : Int) + 1) / (Int.gcd (lc k) ((k : Int) + 1) : Int)) := by
    show lc k * ((k : Int) + 1) / (Int.gcd (lc k) ((k : Int) + 1) : Int) = _
    exact Int.mul_ediv_assoc _ (Int.gcd_dvd_right ..)
  rw [e]
  exact h2
theorem lc_fal (y : Int) (k : Nat) : lc k * fal y k / fac k = lc k * bin y k := by
  rw [bin_mul, ← Int.mul_assoc, Int.mul_comm (lc k) (fac k), Int.mul_assoc, Int.mul_ediv_cancel_left _ (by have := fac_pos k; omega)]
theorem lc_b {k : Nat} (h : k ≤ 9) : (lc k).natAbs ≤ 2 ^ 54 := by
  have a := lc_bd k (by omega)
  have b := lc_pos k
  have c : (2 : Int) ^ (6 * k) ≤ 2 ^ 54 := by
    have : (2 : Nat) ^ (6 * k) ≤ 2 ^ 54 := Nat.pow_le_pow_right (by decide) (by omega)
    have e1 : ((2 ^ (6 * k) : Nat) : Int) = (2 : Int) ^ (6 * k) := by norm_cast
    omega
  omega
theorem fac_b {k : Nat} (h : k ≤ 9) : (fac k).natAbs ≤ 2 ^ 54 := by
  have a := fac_bd k (by omega)
  have b := fac_pos k
  have c : (2 : Int) ^ (6 * k) ≤ 2 ^ 54 := by
    have : (2 : Nat) ^ (6 * k) ≤ 2 ^ 54 := Nat.pow_le_pow_right (by decide) (by omega)
    have e1 : ((2 ^ (6 * k) : Nat) : Int) = (2 : Int) ^ (6 * k) := by norm_cast
    omega
  omega
theorem fal_b {y : Int} {k : Nat} (hy : y.natAbs + 10 ≤ 2 ^ 111) (h : k ≤ 9) : (fal y k).natAbs ≤ 2 ^ 999 := Nat.le_trans (fal_bd (n := 10) hy k (by omega)) (Nat.pow_le_pow_right (by decide) (by omega))
/-- the value of a row at a place -/
def TAtP : TSp := fun ds M Q _ => ∃ (own : List Int) (sh reach x : Int), ds = [rowD own sh reach, .int x] ∧ RowOk own sh reach ∧ x.natAbs ≤ 2 ^ 110 ∧ Q (.int (valF own (x - sh))) M
theorem TAtP_mono : Mono TAtP := fun ds M Q Q' E E' h _ ⟨own, sh, reach, x, h1, h2, h3, h4⟩ => ⟨own, sh, reach, x, h1, h2, h3, h _ _ h4⟩
theorem TAtP_len : ∀ ds M Q E, TAtP ds M Q E → ds.length = 2 := fun ds M Q E h => by obtain ⟨_, _, _, _, rfl, _⟩ := h; rfl
section
variable {P : Program} {w : World} {K : PySem.W.Frag} {mg : Str → Option Value} {base : Heap}
local macro_rules
  | `(tactic| walk_at "ok") => `(tactic| first
  | ((show BlkOk N_l_at (defScope st_l_at) _ _); exact blkOk_by (by decide +kernel)))
  | `(tactic| walk_at "tS") => `(tactic| first
  | ((with_reducible refine gS "_law_found" ?_); refine ws_st 2 ?_))
  | `(tactic| walk_at "tG") => `(tactic| first
  | ((with_reducible refine gG "_law_found" ?_); refine wg_nm 2 ?_)
  | ((with_reducible refine gG "_law_ring" ?_); refine wg_nm 3 ?_)
  | ((with_reducible refine gG "_law_upper" ?_); refine wg_nm 4 ?_)
  | ((with_reducible refine gG "_law_lower" ?_); refine wg_nm 5 ?_)
  | ((with_reducible refine gG "_law_k" ?_); refine wg_nm 6 ?_)
  | ((with_reducible refine gG "_law_own" ?_); refine wg_nm 7 ?_))
  | `(tactic| walk_at "eWECall") => `(tactic| first
  | ((with_reducible show WE _ _ (Expr.Call (Expr.Name _ _) _ _ _) _ _ _); walk_at "c"))
  | `(tactic| walk_at "n") => `(tactic| first
  | ((with_reducible refine gN "_law_k" ?_); refine we_nm 6 rfl rfl ?_)
  | ((with_reducible refine gN "_law_row_here_here" ?_); refine we_nm 0 rfl rfl ?_)
  | ((with_reducible refine gN "_law_found" ?_); refine we_nm 2 rfl rfl ?_)
  | ((with_reducible refine gN "_law_ring" ?_); refine we_nm 3 rfl rfl ?_)
  | ((with_reducible refine gN "_law_upper" ?_); refine we_nm 4 rfl rfl ?_)
  | ((with_reducible refine gN "_law_lower" ?_); refine we_nm 5 rfl rfl ?_)
  | ((with_reducible refine gN "_law_spot" ?_); refine we_nm 1 rfl rfl ?_)
  | ((with_reducible refine gN "_law_own" ?_); refine we_nm 7 rfl rfl ?_))
  | `(tactic| walk_at "t") => `(tactic| first
  | ((with_reducible show WS _ _ (Stmt.Assign [Expr.Name _ _] _ _) _ _ _); walk_at "tS")
  | ((with_reducible show WG _ _ (Expr.Name _ _) _ _ _ _); walk_at "tG")
  | ((with_reducible show WS _ _ (Stmt.Assign [Expr.Tuple [Expr.Name "_law_ring" _, Expr.Name "_law_upper" _, Expr.Name "_law_lower" _] _ _] (Expr.Tuple _ _ _) _) _ _ _); first | refine ws_par3 (i := 3) (j := 4) (l := 5) (by assumption) rfl rfl rfl (by decide) (by decide) (by decide) rfl rfl rfl rfl ?_ | refine ws_asg ?_)
  | ((with_reducible show WS _ _ (Stmt.Assign [Expr.Tuple _ _ _] _ _) _ _ _); refine ws_asg ?_))
  | `(tactic| walk_at "c") => `(tactic| first
  | ((with_reducible refine gCK "_law_multiple" ?_); refine we_cl "_law_multiple" ?_))
theorem fn_lat {f : Addr} {fd : FuncData} (b_enum : mg "enumerate" = none) (d_mul : FD P w K mg base 2 "_law_multiple" 1 TMulL) (Fn : L2.Fun K "_law_at" "_law_at" st_l_at f fd) :
    FnOk P w K mg base (L2.CX P w) 3 f fd ["_law_row_here_here", "_law_spot"] (spG K TAtP) := by
  refine fn_ok Fn sc_l_at rfl TAtP_len ?_
  intro cdv A outer s H E N hr ds M Q X' h
  obtain ⟨own, sh, reach, x, rfl, ok, hx, q⟩ := h
  have l9 := ok.l9
  have s0 := ok.s0
  have s1 := ok.s1
  have yb : (x - sh).natAbs + 10 ≤ 2 ^ 111 := by
    have : (2 : Nat) ^ 111 = 2 ^ 110 * 2 := Nat.pow_succ ..
    omega
  show WB _ _ _ [some (.lst [.lst (own.map D.int), .int sh, .int reach]), some _, none, none, none, none, none, none] _ _
  refine wb_cons ?_
  walk_at "g"
  refine ws_for N (wi_enum rfl (by assumption) ?_)
  walk_at "g"
  refine ⟨_, _, rfl, .l, fun j δ' M' => ∃ x6 x7 : Option D, δ' = [some (.lst [.lst (own.map D.int), .int sh, .int reach]), some (.int x), some (.int (valTo own (x - sh) j)), some (.int (lc (j - 1))), some (.int (fal (x - sh) (j - 1))), some (.int (fac (j - 1))), x6, x7] ∧ M' = M, ?_, ?_, ?_, ?_⟩
  · exact ⟨none, none, rfl, rfl⟩
  · rintro i δ' M' _ ⟨x6, x7, rfl, rfl⟩
    exact .l
  · rintro j d δ' M' hd ⟨x6, x7, rfl, rfl⟩
    obtain ⟨u, hu, rfl⟩ := enumD_inv hd
    obtain ⟨z, hz, rfl⟩ : ∃ z, own[j]? = some z ∧ u = .int z := by
      rw [List.getElem?_map] at hu
      cases hx : own[j]? with
      | none => rw [hx] at hu; cases hu
      | some x => rw [hx] at hu; exact ⟨x, rfl, (Option.some.inj hu).symm⟩
    have hj : j < own.length := (List.getElem?_eq_some_iff.mp hz).1
    have zb := ok.bd z (List.mem_of_getElem? hz)
    have ez : own.getD j 0 = z := by rw [List.getD_eq_getElem?_getD, hz]; rfl
    have mulb : ∀ a c : Int, a.natAbs ≤ 2 ^ 4000 → c.natAbs ≤ 2 ^ 4000 → IntMulOk a c := fun a c ha hc => IntMulOk.of_bits (bt ha (by decide)) (bt hc (by decide))
    have up : ∀ {a : Int} {m : Nat}, a.natAbs ≤ 2 ^ m → m ≤ 4000 → a.natAbs ≤ 2 ^ 4000 := fun h h2 => Nat.le_trans h (Nat.pow_le_pow_right (by decide) h2)
    have fin : lc j * fal (x - sh) j / fac j = lc j * bin (x - sh) j := lc_fal _ _
    have binb : (lc j * bin (x - sh) j).natAbs ≤ 2 ^ 4000 := by
      have a := term_pow (x := x - sh) (n := 9) (k := j) (B := 2 ^ 111) (by omega) (by omega)
      refine Nat.le_trans a ?_
      rw [← Nat.pow_mul]
      exact Nat.pow_le_pow_right (by decide) (by omega)
    have lcj := lc_b (k := j) (by omega)
    have facj := fac_b (k := j) (by omega)
    have falj := fal_b (k := j) yb (by omega)
    have facp := fac_pos j
    have tot : valTo own (x - sh) (j + 1) = valTo own (x - sh) j + z * (lc j * bin (x - sh) j) := by
      show valTo own (x - sh) j + own.getD j 0 * lc j * bin (x - sh) j = _
      rw [ez, Int.mul_assoc]
    have falA : ∀ k : Nat, k ≤ 9 → (fal (x - sh) k).natAbs ≤ 2 ^ 999 := fun k hk => fal_b yb hk
    have yb2 : ∀ c : Int, c.natAbs ≤ 10 → (x - sh - c).natAbs ≤ 2 ^ 111 := fun c hc => by omega
    clear hx yb
    walk_at "g"
    refine iteD (fun h0 => ?_) (fun h0 => ?_)
    · obtain ⟨i, rfl⟩ : ∃ i, j = i + 1 := ⟨j - 1, by omega⟩
      have lci := lc_b (k := i) (by omega)
      have lci0 := lc_pos i
      simp only [Nat.add_sub_cancel] at *
      walk_at "g"
      refine we_lst ?_
      walk_at "g"
      refine ⟨_, [lc i, ((i + 1 : Nat) : Int)], rfl, .l, (by show 2 ≤ 30; decide), fun n hn => ?_, fun L hL => ?_⟩
      · rcases List.mem_cons.mp hn with rfl | hn
        · exact ⟨by omega, Nat.le_trans lci (Nat.pow_le_pow_right (by decide) (by decide))⟩
        · rw [List.mem_singleton.mp hn]
          exact ⟨by omega, by omega⟩
      obtain rfl : L = lc (i + 1) := hL.uniq (isL_lc i) fun z => Iff.rfl
      have faci := fac_b (k := i) (by omega)
      walk_at "g"
      all_goals first
        | exact mulb _ _ (up faci (by decide)) (up (m := 10) (by omega) (by decide))
        | exact mulb _ _ (up (falA i (by omega)) (by decide)) (up (show (x - sh - ((i + 1 : Nat) : Int) + 1).natAbs ≤ 2 ^ 111 by have := yb2 (i : Int) (by omega); rw [show x - sh - ((i + 1 : Nat) : Int) + 1 = x - sh - (i : Int) by omega]; exact this) (by decide))
        | skip
      refine ⟨_, _, _, rfl, ?_⟩
      rw [show fal (x - sh) i * (x - sh - ((i + 1 : Nat) : Int) + 1) = fal (x - sh) (i + 1) by
            show _ = fal (x - sh) i * (x - sh - (i : Int))
            rw [show x - sh - ((i + 1 : Nat) : Int) + 1 = x - sh - (i : Int) by omega],
          show fac i * ((i + 1 : Nat) : Int) = fac (i + 1) from rfl]
      walk_at "g"
      all_goals first
        | exact mulb _ _ (up lcj (by decide)) (up falj (by decide))
        | exact ⟨facp, by have := lg facj (by decide); omega⟩
        | (rw [fin]; exact mulb _ _ (up zb (by decide)) binb)
        | skip
      exact ⟨_, _, by rw [tot, ← fin]; rfl, rfl⟩
    · obtain rfl : j = 0 := by omega
      walk_at "g"
      all_goals first
        | exact mulb _ _ (up lcj (by decide)) (up falj (by decide))
        | exact ⟨facp, by have := lg facj (by decide); omega⟩
        | (rw [fin]; exact mulb _ _ (up zb (by decide)) binb)
        | skip
      exact ⟨_, _, by rw [tot, ← fin]; rfl, rfl⟩
  · rintro δ' M' ⟨x6, x7, rfl, rfl⟩
    rw [enumD_len, List.length_map]
    walk_at "g"
    exact q
end
/-! PuE -/
set_option exponentiation.threshold 100000
def TSpots : TSp := fun ds M Q _ => ∃ (b : Addr) (own : List Int) (sh reach : Int) (m : Nat), ds = [.cel b, rowD own sh reach, .int m] ∧ RowOk own sh reach ∧ m ≤ 24 ∧ CL M b fun L f => ∃ n, StoreL n L ∧ n ≤ 900000 ∧
  ∀ (ns : List Int) L', ns.Pairwise (· < ·) → ns.length ≤ m → (∀ x ∈ ns, x.natAbs ≤ 10 ^ 29 ∧ (x.natAbs : Int) ≤ reach + 48) → StoreL (n + 100) L' → Q (.lst (ns.map D.int)) (f L')
theorem TSpots_mono : Mono TSpots := fun ds M Q Q' E E' h _ ⟨b, own, sh, reach, m, h1, h2, h3, h4⟩ => ⟨b, own, sh, reach, m, h1, h2, h3, h4.imp fun L f ⟨n, g1, g2, g3⟩ => ⟨n, g1, g2, fun ns L' a b c e => h _ _ (g3 ns L' a b c e)⟩⟩
theorem TSpots_len : ∀ ds M Q E, TSpots ds M Q E → ds.length = 3 := fun ds M Q E h => by obtain ⟨_, _, _, _, _, rfl, _⟩ := h; rfl
section
variable {P : Program} {w : World} {K : PySem.W.Frag} {mg : Str → Option Value} {base : Heap}
local macro_rules
  | `(tactic| walk_at "ok") => `(tactic| first
  | ((show BlkOk N_l_spots (defScope st_l_spots) _ _); exact blkOk_by (by decide +kernel)))
  | `(tactic| walk_at "tS") => `(tactic| first
  | ((with_reducible refine gS "_law_last" ?_); refine ws_st 4 ?_)
  | ((with_reducible refine gS "_law_far" ?_); refine ws_st 6 ?_))
  | `(tactic| walk_at "tG") => `(tactic| first
  | ((with_reducible refine gG "_law_found" ?_); refine wg_nm 3 ?_)
  | ((with_reducible refine gG "_law_last" ?_); refine wg_nm 4 ?_)
  | ((with_reducible refine gG "_law_turn" ?_); refine wg_nm 5 ?_))
  | `(tactic| walk_at "eWECall") => `(tactic| first
  | ((with_reducible show WE _ _ (Expr.Call (Expr.Name _ _) _ _ _) _ _ _); walk_at "c")
  | ((with_reducible refine gC "max" ?_); refine we_max2 rfl rfl (by assumption) ?_)
  | ((with_reducible show WE _ _ (Expr.Call (Expr.Attribute _ "append" _) _ _ _) _ _ _); refine we_append ?_)
  | ((with_reducible refine gC "min" ?_); refine we_min2 rfl rfl (by assumption) ?_))
  | `(tactic| walk_at "n") => `(tactic| first
  | ((with_reducible refine gN "_law_purse_here" ?_); refine we_nm 0 rfl rfl ?_)
  | ((with_reducible refine gN "_law_last" ?_); refine we_nm 4 rfl rfl ?_)
  | ((with_reducible refine gN "_law_row_here_here" ?_); refine we_nm 1 rfl rfl ?_)
  | ((with_reducible refine gN "_law_found" ?_); refine we_nm 3 rfl rfl ?_)
  | ((with_reducible refine gN "_law_far" ?_); refine we_nm 6 rfl rfl ?_)
  | ((with_reducible refine gN "_law_most" ?_); refine we_nm 2 rfl rfl ?_))
  | `(tactic| walk_at "t") => `(tactic| first
  | ((with_reducible show WS _ _ (Stmt.Assign [Expr.Name _ _] _ _) _ _ _); walk_at "tS")
  | ((with_reducible show WG _ _ (Expr.Name _ _) _ _ _ _); walk_at "tG")
  | ((with_reducible show WS _ _ (Stmt.Assign [Expr.Tuple [Expr.Name "_law_found" _, Expr.Name "_law_last" _] _ _] (Expr.Tuple _ _ _) _) _ _ _); first | refine ws_par (i := 3) (j := 4) (by assumption) rfl rfl (by decide) rfl rfl rfl ?_ | refine ws_asg ?_)
  | ((with_reducible show WS _ _ (Stmt.Assign [Expr.Tuple _ _ _] _ _) _ _ _); refine ws_asg ?_))
  | `(tactic| walk_at "c") => `(tactic| first
  | ((with_reducible refine gCK "_law_toss" ?_); refine we_cl "_law_toss" ?_))
theorem fn_lspots {f : Addr} {fd : FuncData} (b_max : mg "max" = none) (b_min : mg "min" = none) (b_range : mg "range" = none) (b_set : mg "set" = none) (b_sorted : mg "sorted" = none) (d_toss : FD P w K mg base 1 "_law_toss" 2 TToss) (Fn : L2.Fun K "_law_spots" "_law_spots" st_l_spots f fd) :
    FnOk P w K mg base (L2.CX P w) 2 f fd ["_law_purse_here", "_law_row_here_here", "_law_most"] (spG K TSpots) := by
  refine fn_ok Fn sc_l_spots rfl TSpots_len ?_
  intro cdv A outer s H E N hr ds M Q X' h
  obtain ⟨b, own, sh, reach, m, rfl, ok, hm, k, L, hM, n, hL, hn, q⟩ := h
  have r0 := ok.r0
  have r1 := ok.r1
  show WB _ _ _ [some _, some (.lst [.lst (own.map D.int), .int sh, .int reach]), some _, none, none, none, none] _ _
  refine wb_cons ?_
  walk_at "t"
  refine wa_cons (we_lstC ?_)
  walk_at "g"
  intro p
  walk_at "g"
  refine ⟨_, _, rfl, ?_⟩
  refine wb_cons ?_
  refine ws_for N (wi_range1 rfl (by assumption) ?_)
  walk_at "g"
  refine ttoss (by omega) (by omega) (cl_skip (cl_k hM ⟨n, hL, by omega, fun rr L1 h0 h1 hL1 => ?_⟩))
  walk_at "g"
  refine ⟨by omega, by omega, fun j δ' M' => ∃ (x5 x6 : Option D) (la : Int) (xs : List Int) (L' : List D), δ' = [some (.cel b), some (.lst [.lst (own.map D.int), .int sh, .int reach]), some (.int m), some (.cel p), some (.int la), x5, x6] ∧ M' = (p, .lst (xs.map D.int)) :: M.set k (b, .lst L') ∧ xs.length = j ∧ (∀ x ∈ xs, x.natAbs ≤ 10 ^ 29 ∧ (x.natAbs : Int) ≤ reach + 2 * j) ∧ la.natAbs ≤ 10 ^ 29 ∧ (la.natAbs : Int) ≤ reach + 2 * j ∧ StoreL (n + 1 + 3 * j) L', ?_, fun _ _ _ _ _ => trivial, ?_, ?_⟩
  · exact ⟨none, none, 0, [], L1, rfl, rfl, rfl, by simp, by decide, by omega, hL1⟩
  · rintro j d δ' M' hd ⟨x5, x6, la, xs, L', rfl, rfl, hxl, hxs, hla1, hla2, hL'⟩
    obtain ⟨hj, rfl⟩ := rangeD_inv hd
    have hj24 : j < 24 := by omega
    walk_at "g"
    rotate_left 1
    · exact IntMulOk.of_left (by decide)
    refine ttoss (by omega) (by omega) (cl_skip (cl_set hM ⟨_, hL', by omega, fun far0 L2 h20 h21 hL2 => ?_⟩))
    walk_at "g"
    refine we_lst ?_
    walk_at "g"
    refine ttoss (by decide) (by decide) (cl_skip (cl_set hM ⟨_, hL2, by omega, fun nr L3 h30 h31 hL3 => ?_⟩))
    walk_at "g"
    refine ttoss (by decide) (by decide) (cl_skip (cl_set hM ⟨_, hL3, by omega, fun w5 L4 h40 h41 hL4 => ?_⟩))
    obtain ⟨z, hz, hzb⟩ : ∃ z : Int, atI [D.int (la + 1), D.int (nr - 12), D.int (far0 - reach), D.int (far0 - reach), D.int (la - 2)] w5 = some (.int z) ∧ (z.natAbs : Int) ≤ reach + 2 * j + 2 := by
      have : w5 = 0 ∨ w5 = 1 ∨ w5 = 2 ∨ w5 = 3 ∨ w5 = 4 := by omega
      rcases this with rfl | rfl | rfl | rfl | rfl
      · exact ⟨_, rfl, by omega⟩
      · exact ⟨_, rfl, by omega⟩
      · exact ⟨_, rfl, by omega⟩
      · exact ⟨_, rfl, by omega⟩
      · exact ⟨_, rfl, by omega⟩
    refine rix_l ⟨_, hz, ?_⟩
    walk_at "g"
    all_goals first
      | exact ⟨by decide, by have := intBits_le (i := 10) (n := 4) (by decide); omega⟩
      | skip
    refine ⟨_, _, rfl, ?_⟩
    walk_at "g"
    refine ⟨_, _, rfl, ?_⟩
    have e29 : (10 : Int) ^ Int.toNat 29 = 10 ^ 29 := rfl
    rw [e29]
    generalize hz2 : (if (if z < 10 ^ 29 then z else 10 ^ 29) > 0 - 10 ^ 29 then (if z < 10 ^ 29 then z else 10 ^ 29) else 0 - 10 ^ 29) = z2
    have z2b : z2.natAbs ≤ 10 ^ 29 ∧ (z2.natAbs : Int) ≤ reach + 2 * j + 2 := by
      rw [← hz2]
      split <;> split <;> omega
    walk_at "g"
    refine ⟨by rw [List.length_map, sizeLine_eq]; omega, ?_⟩
    refine ⟨_, _, z2, xs ++ [z2], L4, rfl, by rw [List.map_append]; rfl, by rw [List.length_append, hxl]; rfl, fun x hx => ?_, z2b.1, by omega, hL4.up (by omega)⟩
    rcases List.mem_append.mp hx with hx | hx
    · have := hxs x hx
      exact ⟨this.1, by omega⟩
    · rw [List.mem_singleton.mp hx]
      exact ⟨z2b.1, by omega⟩
  · rintro δ' M' ⟨x5, x6, la, xs, L', rfl, rfl, hxl, hxs, hla1, hla2, hL'⟩
    rw [rangeD_len] at hxl hL' hxs
    refine wb_one (ws_ret (WE.few ?_))
    walk_at "g"
    refine ⟨xs, .c 0 rfl, by omega, fun ns' hp hi hle => ⟨M.set k (b, .lst L'), List.sublist_cons_self _ _, q ns' L' hp (by omega) (fun x hx => ?_) (hL'.up (by omega))⟩⟩
    obtain ⟨a1, a2⟩ := hxs x ((hi x).mp hx)
    exact ⟨a1, by omega⟩
end
/-! PuF -/
set_option exponentiation.threshold 100000
def bkOf (own : List Int) (sh : Int) (ns : List Int) : List (Int × Int) := ns.map fun s => (s, valF own (s - sh))
theorem poss_of {own : List Int} {sh reach : Int} {ns : List Int} (ok : RowOk own sh reach) (hp : ns.Pairwise (· < ·)) (hl : ns.length ≤ 24) (hb : ∀ x ∈ ns, x.natAbs ≤ 10 ^ 29 ∧ (x.natAbs : Int) ≤ reach + 48) : PossOk (bkOf own sh ns) := by
  have s0 := ok.s0
  have s1 := ok.s1
  have r0 := ok.r0
  refine ⟨⟨by unfold bkOf; rw [List.length_map]; exact hl, fun x hx => ?_, ?_⟩, fun x hx y hy => ?_⟩
  · obtain ⟨s, hs, rfl⟩ := List.mem_map.mp hx
    have := hb s hs
    exact ⟨Nat.le_trans this.1 (by decide), ok.sm _ (by omega)⟩
  · unfold bkOf
    rw [List.map_map, show (Prod.fst ∘ fun s => (s, valF own (s - sh))) = id from rfl, List.map_id]
    exact hp
  · obtain ⟨s, _, rfl⟩ := List.mem_map.mp hx
    obtain ⟨t, _, rfl⟩ := List.mem_map.mp hy
    have := valF_keeps own (s - sh) (t - sh)
    rw [show s - sh - (t - sh) = s - t by omega] at this
    exact this
def fBk (own : List Int) (sh : Int) : D → D
  | .int s => itemD (s, valF own (s - sh))
  | _ => .non
theorem bk_D (own : List Int) (sh : Int) (ns : List Int) : (ns.map D.int).map (fBk own sh) = bookD (bkOf own sh ns) := by
  unfold bookD bkOf
  rw [List.map_map, List.map_map]
  rfl
/-! PuL -/
set_option exponentiation.threshold 100000
theorem bk_len (own : List Int) (sh : Int) (ns : List Int) : (bkOf own sh ns).length = ns.length := by unfold bkOf; rw [List.length_map]
theorem inV_ints (x : Int) : ∀ ns : List Int, inV (.int x) (ns.map V.int) = decide (x ∈ ns) := fun ns => by
  rw [Bool.eq_iff_iff, decide_eq_true_iff]
  simp [inV, eqV]
theorem rin_ints {M : Cells} {e : D} {x : Int} {ns : List Int} {neg : Bool} {Q : D → Cells → Prop} (h : LV M e (ns.map D.int)) (q : Q (.bl (if neg then !decide (x ∈ ns) else decide (x ∈ ns))) M) : RIn neg (.int x) e M Q := by
  refine .inl ⟨.int x, ns.map V.int, rfl, .inl (by rw [List.map_map]; exact h), rfl, by simp [flatV], ?_⟩
  rw [inV_ints]
  exact q
theorem pair_ne {a b : Int} {M : Cells} {Q : D → Cells → Prop} (q : Q (.bl false) M) : REq true (.tup [.int a, .int b]) (.tup [.int a, .int b]) M Q := by
  have sh : SeqAt.shaped (py (.tup [.int a, .int b])) = true := rfl
  refine req_dN (p := py (.tup [.int a, .int b])) (q := py (.tup [.int a, .int b])) (.inl ⟨rfl, rfl⟩) (.inl ⟨rfl, rfl⟩) sh sh ?_
  rw [PySem.SeqAt.eqv_refl _ (SeqAt.canLay_of_shaped sh)]
  exact q
theorem bnd_of {xs : List (Int × Int)} (h : PossOk xs) : ∀ x ∈ xs, x.1.natAbs ≤ 2 ^ 110 ∧ x.2.natAbs ≤ 2 ^ 110 := fun x hx => by
  have := h.1.2.1 x hx
  exact ⟨Nat.le_trans this.1 (by decide), Nat.le_trans this.2 (by decide)⟩
theorem cutD_0 (ds : List D) (n : Nat) : cutD ds none (some (n : Int)) = ds.take n := by
  unfold cutD
  have e : HT.sIx ds.length ds.length (some (n : Int)) = min n ds.length := by
    show (if (n : Int) < 0 then ((n : Int) + (ds.length : Int)).toNat else min (n : Int).toNat ds.length) = _
    rw [if_neg (by omega)]; rfl
  have e0 : HT.sIx ds.length 0 none = 0 := rfl
  rw [e, e0, Nat.sub_zero, List.drop_zero]
  rcases Nat.le_total n ds.length with h | h
  · rw [Nat.min_eq_left h]
  · rw [Nat.min_eq_right h, List.take_length, List.take_of_length_le h]
def fFst : D → D
  | .tup (d :: _) => d
  | _ => .non
/-! VaE -/
set_option exponentiation.threshold 100000
/-- r, m: the class of what can stand at pl beside xs, X being what fits all -/
def IsCls (xs : List (Int × Int)) (pl X r m : Int) : Prop := ((∃ x ∈ xs, x.1 = pl) ∧ r = X ∧ m = 0) ∨ ((∀ x ∈ xs, x.1 ≠ pl) ∧ IsL (xs.map fun x => pl - x.1) m ∧ r = X % m)
/-- the book, the place, what fits all -/
structure ClsArg (M : Cells) (d : D) (xs : List (Int × Int)) (pl X : Int) : Prop where
  lv : LV M d (bookD xs)
  ps : PossOk xs
  ln : xs.length ≤ 24
  bd : ∀ x ∈ xs, x.1.natAbs ≤ 2 ^ 110 ∧ x.2.natAbs ≤ 2 ^ 110
  pb : pl.natAbs ≤ 2 ^ 110
  dv : ∀ x ∈ xs, (pl - x.1) ∣ (X - x.2)
theorem ClsArg.by {M : Cells} {d : D} {xs : List (Int × Int)} {pl X : Int} {Q : D → Cells → Prop} {E : Ex → Cells → Prop} (h : ClsArg M d xs pl X) (k : ∀ r m, IsCls xs pl X r m → Q (.tup [.int r, .int m]) M) : TClsBy [d, .int pl] M Q E :=
  ⟨d, xs, pl, X, 24, 110, rfl, h.lv, ⟨h.ln, by decide, by decide⟩, fun x hx => (h.bd x hx).1, h.pb, h.dv, fun a => k _ _ (.inl ⟨a, rfl, rfl⟩), fun a L b => k _ _ (.inr ⟨a, b, rfl⟩)⟩
/-! FiA -/
set_option exponentiation.threshold 100000
def fPl : D → D
  | .tup [p, _] => p
  | _ => .non
/-- new places: one to eight, unlike, none told -/
def PlOk (xs : List (Int × Int)) (ps : List Int) : Prop := 1 ≤ ps.length ∧ ps.length ≤ 8 ∧ (∀ p ∈ ps, Small p) ∧ (ps ++ xs.map Prod.fst).Nodup
def TNeedPl : TSp := fun ds M Q _ => ∃ (d e : D) (xs : List (Int × Int)) (ps : List Int), ds = [d, e] ∧ LV M d (bookD xs) ∧ LV M e (ps.map D.int) ∧ xs.length ≤ 24 ∧ PlOk xs ps ∧ Q .non M
theorem TNeedPl_mono : Mono TNeedPl := fun ds M Q Q' E E' h _ ⟨d, e, xs, ps, h1, h2, h3, h4, h5, h6⟩ => ⟨d, e, xs, ps, h1, h2, h3, h4, h5, h _ _ h6⟩
theorem TNeedPl_len : ∀ ds M Q E, TNeedPl ds M Q E → ds.length = 2 := fun ds M Q E h => by obtain ⟨_, _, _, _, rfl, _⟩ := h; rfl
section
variable {P : Program} {w : World} {K : PySem.W.Frag} {mg : Str → Option Value} {base : Heap}
local macro_rules
  | `(tactic| walk_at "ok") => `(tactic| first
  | ((show BlkOk N_need_places (defScope st_need_places) _ _); exact blkOk_by (by decide +kernel)))
  | `(tactic| walk_at "tS") => `(tactic| first
  | ((with_reducible refine gS "is_list" ?_); refine ws_st 2 ?_)
  | ((with_reducible refine gS "told" ?_); refine ws_st 3 ?_))
  | `(tactic| walk_at "tG") => `(tactic| first
  | ((with_reducible refine gG "place" ?_); refine wg_nm 4 ?_)
  | ((with_reducible refine gG "value" ?_); refine wg_nm 5 ?_))
  | `(tactic| walk_at "eWECall") => `(tactic| first
  | ((with_reducible refine gC "isinstance" ?_); refine we_isi rfl (by assumption) ?_)
  | ((with_reducible refine gC "len" ?_); refine we_len rfl (by assumption) ?_)
  | ((with_reducible refine gC "all" ?_); refine we_all rfl rfl (by assumption) ?_)
  | ((with_reducible show WE _ _ (Expr.Call (Expr.Name _ _) _ _ _) _ _ _); walk_at "c"))
  | `(tactic| walk_at "n") => `(tactic| first
  | ((with_reducible refine gN "places" ?_); refine we_nm 1 rfl rfl ?_)
  | ((with_reducible refine gN "told" ?_); refine we_nm 3 rfl rfl ?_)
  | ((with_reducible refine gN "place" ?_); refine we_nm 4 rfl rfl ?_)
  | ((with_reducible refine gN "book" ?_); refine we_nm 0 rfl rfl ?_)
  | ((with_reducible refine gN "is_list" ?_); refine we_nm 2 rfl rfl ?_)
  | ((with_reducible show WE _ _ (Expr.Name "MOST_PLACES" _) _ _ _); refine we_globI rfl (by assumption) ?_)
  | ((with_reducible show WE _ _ (Expr.Name "list" _) _ _ _); refine we_bltn (v := .ty "list") rfl (by assumption) (by decide +kernel) rfl ?_))
  | `(tactic| walk_at "t") => `(tactic| first
  | ((with_reducible show WS _ _ (Stmt.Assign [Expr.Name _ _] _ _) _ _ _); walk_at "tS")
  | ((with_reducible show WG _ _ (Expr.Name _ _) _ _ _ _); walk_at "tG")
  | ((with_reducible show WS _ _ (Stmt.Assign [Expr.Tuple _ _ _] _ _) _ _ _); refine ws_asg ?_))
  | `(tactic| walk_at "c") => `(tactic| first
  | ((with_reducible refine gCK "is_told" ?_); refine we_cl "is_told" ?_))
  | `(tactic| walk_at "tg") => `(tactic| first
  | exact Tg.two (i := 4) (j := 5) rfl rfl (by decide) rfl rfl
  | exact Tg.one (i := 4) rfl rfl)
  | `(tactic| walk_at "e") => `(tactic| ((with_reducible show WE _ _ (Expr.Call (Expr.Name (Str.ofString "len") _) [Expr.Call (Expr.Name (Str.ofString "set") _) _ _ _] _ _) _ _ _); refine we_lenSet (Nice.calm (by assumption)) rfl (by assumption) rfl (by assumption) ?_))
theorem fn_need_places {f : Addr} {fd : FuncData} (b_isi : mg "isinstance" = none) (b_len : mg "len" = none) (b_list : mg "list" = none) (b_all : mg "all" = none) (b_set : mg "set" = none) (c1 : ∃ t, mg "MOST_PLACES" = some (.int 8 t)) (d_told : FD P w K mg base 2 "is_told" 1 TTold) (Fn : L2.Fun K "need_places" "need_places" st_need_places f fd) :
    FnOk P w K mg base (L2.CX P w) 3 f fd ["book", "places"] (spG K TNeedPl) := by
  refine fn_ok Fn sc_need_places rfl TNeedPl_len ?_
  intro cdv A outer s H E N hr ds M Q X' h
  obtain ⟨d, e, xs, ps, rfl, hl, hl2, hx, hp, q⟩ := h
  obtain ⟨p1, p8, psm, pnd⟩ := hp
  show WB _ _ _ [some _, some _, none, none, none, none] _ _
  refine wb_cons ?_
  walk_at "g"
  refine isi1 hl2.ty (by decide) (b := true) (by decide) ?_
  walk_at "g"
  refine Sq.len (.inl ⟨rfl, hl2⟩) ?_
  have plen : (ps.map D.int).length = ps.length := List.length_map ..
  refine ⟨1, _, rfl, rfl, iteP (decide_eq_true (by omega)) ?_⟩
  walk_at "g"
  refine iteN (fun h => absurd (by rw [plen]; omega) h) (fun _ => ?_)
  walk_at "g"
  refine we_froz 0 (we_lcM (fun _ => .bl true) N (by walk_at "tg") (by walk_at "ok") (wi_list ?_))
  walk_at "g"
  refine ⟨_, hl2, by rw [plen, sizeLine_eq]; omega, fun _ _ => hl2.cons, ?_, ?_⟩
  · intro j d' acc p hd
    obtain ⟨y, hy, rfl⟩ := List.mem_map.mp (List.mem_of_getElem? hd)
    refine ⟨_, rfl, fun B => ?_⟩
    walk_at "g"
    exact ⟨y, rfl, psm y hy, rfl, rfl⟩
  · intro p
    refine ⟨p, _, rfl, rfl, ?_⟩
    walk_at "g"
    refine ⟨_, List.replicate ps.length true, rfl, ?_, ?_⟩
    · rw [show (List.replicate ps.length true).map D.bl = (ps.map D.int).map fun _ => D.bl true by rw [List.map_map, List.map_replicate]; exact (List.map_const' ..).symm]
      exact .l
    · rw [show (List.replicate ps.length true).all id = true by simp]
      walk_at "g"
      refine ws_setLC (i := 3) N rfl rfl (lc_froz 0 (lc_lcM fPl N (by walk_at "tg") (by walk_at "ok") (wi_list ?_)))
      walk_at "g"
      refine ⟨_, hl, ?_, fun _ _ => hl.cons, ?_, ?_⟩
      · unfold bookD; rw [List.length_map, sizeLine_eq]; omega
      · intro j d' acc p2 hd
        obtain ⟨y, hy, rfl⟩ := List.mem_map.mp (List.mem_of_getElem? hd)
        refine ⟨_, ⟨_, _, rfl, rfl⟩, fun B => ?_⟩
        walk_at "g"
        exact ⟨rfl, rfl⟩
      intro p2
      refine ⟨p2, _, rfl, rfl, ?_⟩
      rw [show (bookD xs).map fPl = (xs.map Prod.fst).map D.int by unfold bookD; rw [List.map_map, List.map_map]; rfl]
      walk_at "g"
      have nl : (ps ++ xs.map Prod.fst).length ≤ 32 := by rw [List.length_append, List.length_map]; omega
      refine .inr (.inr ⟨_, _, hl2, .l, by rw [plen, List.length_map, List.length_map, sizeLine_eq]; omega, ?_⟩)
      rw [← List.map_append]
      refine ⟨_, .l, by omega, pnd, ?_⟩
      walk_at "g"
      refine .inr (.inr ⟨_, _, hl2, .l, by rw [plen, List.length_map, List.length_map, sizeLine_eq]; omega, ?_⟩)
      rw [← List.map_append]
      walk_at "g"
      refine iteQ (decide_eq_false (by rw [List.length_map]; omega)) ?_
      walk_at "g"
      exact q
end
/-! FiB -/
set_option exponentiation.threshold 100000
/-- a book and new places -/
def TOpen : TSp := fun ds M Q _ => ∃ (d e : D) (xs : List (Int × Int)) (ps : List Int), ds = [d, e] ∧ LV M d (bookD xs) ∧ LV M e (ps.map D.int) ∧ BookOk xs ∧ PlOk xs ps ∧ Q .non M
theorem TOpen_mono : Mono TOpen := fun ds M Q Q' E E' h _ ⟨d, e, xs, ps, h1, h2, h3, h4, h5, h6⟩ => ⟨d, e, xs, ps, h1, h2, h3, h4, h5, h _ _ h6⟩
theorem TOpen_len : ∀ ds M Q E, TOpen ds M Q E → ds.length = 2 := fun ds M Q E h => by obtain ⟨_, _, _, _, rfl, _⟩ := h; rfl
section
variable {P : Program} {w : World} {K : PySem.W.Frag} {mg : Str → Option Value} {base : Heap}
local macro_rules
  | `(tactic| walk_at "ok") => `(tactic| first
  | ((show BlkOk N_need_open (defScope st_need_open) _ _); exact blkOk_by (by decide +kernel)))
  | `(tactic| walk_at "eWECall") => `(tactic| first
  | ((with_reducible show WE _ _ (Expr.Call (Expr.Name _ _) _ _ _) _ _ _); walk_at "c"))
  | `(tactic| walk_at "n") => `(tactic| first
  | ((with_reducible refine gN "book" ?_); refine we_nm 0 rfl rfl ?_)
  | ((with_reducible refine gN "places" ?_); refine we_nm 1 rfl rfl ?_))
  | `(tactic| walk_at "t") => `(tactic| first
  | ((with_reducible show WS _ _ (Stmt.Assign [Expr.Tuple _ _ _] _ _) _ _ _); refine ws_asg ?_))
  | `(tactic| walk_at "c") => `(tactic| first
  | ((with_reducible refine gCK "need_book" ?_); refine we_cl "need_book" ?_)
  | ((with_reducible refine gCK "need_places" ?_); refine we_cl "need_places" ?_))
theorem fn_need_open {f : Addr} {fd : FuncData} (d_book : FD P w K mg base 5 "need_book" 1 TNeedBook) (d_pl : FD P w K mg base 3 "need_places" 2 TNeedPl) (Fn : L2.Fun K "need_open" "need_open" st_need_open f fd) :
    FnOk P w K mg base (L2.CX P w) 6 f fd ["book", "places"] (spG K TOpen) := by
  refine fn_ok Fn sc_need_open rfl TOpen_len ?_
  intro cdv A outer s H E N hr ds M Q X' h
  obtain ⟨d, e, xs, ps, rfl, hl, hl2, hb, hp, q⟩ := h
  show WB _ _ _ [some _, some _] _ _
  refine wb_cons ?_
  walk_at "g"
  refine ⟨_, xs, rfl, hl, hb, ?_⟩
  walk_at "g"
  refine ⟨_, _, xs, ps, rfl, hl, hl2, hb.1, hp, ?_⟩
  exact q
end
def TCnt : TSp := fun ds M Q _ => ∃ (d : D) (ss : List Int) (size : Int), ds = [d, .int size] ∧ LV M d (ss.map D.int) ∧ ss.length ≤ 8 ∧ (∀ s ∈ ss, 0 < s ∧ s < 2 ^ 4000) ∧ 0 ≤ size ∧ size < 2 ^ 30000 ∧ Q (.int (cntF ss size)) M
theorem TCnt_mono : Mono TCnt := fun ds M Q Q' E E' h _ ⟨d, ss, z, h1, h2, h3, h4, h5, h6, h7⟩ => ⟨d, ss, z, h1, h2, h3, h4, h5, h6, h _ _ h7⟩
theorem TCnt_len : ∀ ds M Q E, TCnt ds M Q E → ds.length = 2 := fun ds M Q E h => by obtain ⟨_, _, _, rfl, _⟩ := h; rfl
/-! FiC -/
set_option exponentiation.threshold 100000
section
variable {P : Program} {w : World} {K : PySem.W.Frag} {mg : Str → Option Value} {base : Heap}
local macro_rules
  | `(tactic| walk_at "ok") => `(tactic| first
  | ((show BlkOk N_count_in (defScope st_count_in) _ _); exact blkOk_by (by decide +kernel)))
  | `(tactic| walk_at "tS") => `(tactic| first
  | ((with_reducible refine gS "found" ?_); refine ws_st 2 ?_))
  | `(tactic| walk_at "tG") => `(tactic| first
  | ((with_reducible refine gG "step" ?_); refine wg_nm 3 ?_))
  | `(tactic| walk_at "n") => `(tactic| first
  | ((with_reducible refine gN "found" ?_); refine we_nm 2 rfl rfl ?_)
  | ((with_reducible refine gN "steps" ?_); refine we_nm 0 rfl rfl ?_)
  | ((with_reducible refine gN "size" ?_); refine we_nm 1 rfl rfl ?_)
  | ((with_reducible refine gN "step" ?_); refine we_nm 3 rfl rfl ?_))
  | `(tactic| walk_at "t") => `(tactic| first
  | ((with_reducible show WS _ _ (Stmt.Assign [Expr.Name _ _] _ _) _ _ _); walk_at "tS")
  | ((with_reducible show WG _ _ (Expr.Name _ _) _ _ _ _); walk_at "tG")
  | ((with_reducible show WS _ _ (Stmt.Assign [Expr.Tuple _ _ _] _ _) _ _ _); refine ws_asg ?_))
theorem fn_count_in {f : Addr} {fd : FuncData} (Fn : L2.Fun K "count_in" "count_in" st_count_in f fd) :
    FnOk P w K mg base (L2.CX P w) 1 f fd ["steps", "size"] (spG K TCnt) := by
  refine fn_ok Fn sc_count_in rfl TCnt_len ?_
  intro cdv A outer s H E N hr ds M Q X' h
  obtain ⟨d, ss, size, rfl, hl, h8, hs, z0, z1, q⟩ := h
  show WB _ _ _ [some _, some (.int size), none, none] _ _
  refine wb_cons ?_
  walk_at "g"
  refine ws_for N (wi_list ?_)
  walk_at "g"
  refine ⟨_, hl, fun j δ' M' => ∃ (x3 : Option D), δ' = [some d, some (.int size), some (.int (cntF (ss.take j) size)), x3] ∧ M' = M ∧ 0 ≤ cntF (ss.take j) size ∧ (cntF (ss.take j) size).natAbs ≤ 2 ^ (30000 * j), ?_, ?_, ?_, ?_⟩
  · exact ⟨none, rfl, rfl, by show (0 : Int) ≤ 1; decide, by show (1 : Int).natAbs ≤ 2 ^ 0; decide⟩
  · rintro i δ' M' _ ⟨x3, rfl, rfl, _⟩
    exact hl
  · rintro j d1 δ' M' hd ⟨x3, rfl, rfl, c0, c1⟩
    obtain ⟨n, hn, rfl⟩ : ∃ n, ss[j]? = some n ∧ d1 = .int n := by
      rw [List.getElem?_map] at hd
      cases hx : ss[j]? with
      | none => rw [hx] at hd; cases hd
      | some x => rw [hx] at hd; exact ⟨x, rfl, (Option.some.inj hd).symm⟩
    have hnp := hs n (List.mem_of_getElem? hn)
    have hj : j < ss.length := (List.getElem?_eq_some_iff.mp hn).1
    have e1 : ss.take (j + 1) = ss.take j ++ [n] := by rw [List.take_succ, hn]; rfl
    have sb : size.natAbs < 2 ^ 30000 := by omega
    have qb : (size / n).natAbs ≤ size.natAbs := abs_ediv size hnp.1
    have cb : (cntF (ss.take j) size).natAbs < 2 ^ 240001 := Nat.lt_of_le_of_lt c1 (Nat.pow_lt_pow_right (by decide) (by omega))
    walk_at "g"
    · exact mul_ok (a := 240001) (b := 30000) cb (Nat.lt_of_le_of_lt qb sb) (by decide) (by decide)
    · refine ⟨_, by rw [e1, cntF_snoc]; rfl, rfl, ?_, ?_⟩
      · rw [e1, cntF_snoc]
        exact Int.mul_nonneg c0 (Int.ediv_nonneg z0 (by omega))
      · rw [e1, cntF_snoc, Int.natAbs_mul, show 30000 * (j + 1) = 30000 * j + 30000 by omega, Nat.pow_add]
        exact Nat.mul_le_mul c1 (by omega)
    · exact ⟨hnp.1, by have := log2_lt (i := n) (n := 4000) (by omega) (by decide); omega⟩
  · rintro δ' M' ⟨x3, rfl, rfl, c0, c1⟩
    rw [List.length_map, List.take_length]
    walk_at "g"
    exact q
end
/-! MuA -/
set_option exponentiation.threshold 100000
/-- the least common multiple, 0 among them -/
def TMulZ : TSp := fun ds M Q _ => ∃ (d : D) (ns : List Int) (B : Nat), ds = [d] ∧ LV M d (ns.map D.int) ∧ B * ns.length ≤ 200000 ∧ B ≤ 8000 ∧ (∀ n ∈ ns, n.natAbs ≤ 2 ^ B) ∧ Q (.int (lcmF ns)) M
theorem TMulZ_mono : Mono TMulZ := fun ds M Q Q' E E' h _ ⟨d, ns, B, h1, h2, h3, h4, h5, h6⟩ => ⟨d, ns, B, h1, h2, h3, h4, h5, h _ _ h6⟩
theorem TMulZ_len : ∀ ds M Q E, TMulZ ds M Q E → ds.length = 1 := fun ds M Q E h => by obtain ⟨_, _, _, rfl, _⟩ := h; rfl
theorem lcmF_zero {ns : List Int} (h : (0 : Int) ∈ ns) : lcmF ns = 0 := by
  have := (lcmF_dvd ns (lcmF ns)).mp (Int.dvd_refl _) 0 h
  rwa [Int.zero_dvd] at this
/-- one step of the way -/
theorem mul_step {L n : Int} (hL : 0 < L) (hn : n ≠ 0) : L / (Int.gcd L (if n < 0 then -n else n) : Int) * (if n < 0 then -n else n) = (Int.lcm L n : Int) := by
  have ge : (Int.lcm L (if n < 0 then -n else n) : Int) = (Int.lcm L n : Int) := by
    split
    · rw [Int.lcm_neg]
    · rfl
  rw [← ge]
  have g0 : 0 < (if n < 0 then -n else n) := by split <;> omega
  generalize (if n < 0 then -n else n) = g at *
  have h1 : (Int.gcd L g : Int) * (Int.lcm L g : Int) = L * g := by
    have := Int.gcd_mul_lcm L g
    have n1 : ((Int.gcd L g * Int.lcm L g : Nat) : Int) = ((L * g).natAbs : Int) := by rw [this, Int.natAbs_mul]
    rw [Int.natCast_mul] at n1
    rw [n1]
    have : 0 ≤ L * g := Int.mul_nonneg (by omega) (by omega)
    omega
  have gp : 0 < (Int.gcd L g : Int) := by
    have : 0 < Int.gcd L g := Int.gcd_pos_of_ne_zero_left _ (by omega)
    omega
  obtain ⟨k, hk⟩ : (Int.gcd L g : Int) ∣ L := Int.gcd_dvd_left ..
  generalize (Int.gcd L g : Int) = d at *
  rw [Int.ediv_eq_of_eq_mul_right (by omega) hk]
  have h3 : d * (Int.lcm L g : Int) = d * (k * g) := by rw [h1, ← Int.mul_assoc, ← hk]
  exact (Int.eq_of_mul_eq_mul_left (by omega) h3).symm
section
variable {P : Program} {w : World} {K : PySem.W.Frag} {mg : Str → Option Value} {base : Heap}
local macro_rules
  | `(tactic| walk_at "ok") => `(tactic| first
  | ((show BlkOk N_multiple_of (defScope st_multiple_of) _ _); exact blkOk_by (by decide +kernel)))
  | `(tactic| walk_at "tS") => `(tactic| first
  | ((with_reducible refine gS "found" ?_); refine ws_st 1 ?_))
  | `(tactic| walk_at "tG") => `(tactic| first
  | ((with_reducible refine gG "number" ?_); refine wg_nm 2 ?_))
  | `(tactic| walk_at "eWECall") => `(tactic| first
  | ((with_reducible refine gC "abs" ?_); refine we_abs rfl (by assumption) ?_)
  | ((with_reducible show WE _ _ (Expr.Call (Expr.Name _ _) _ _ _) _ _ _); walk_at "c"))
  | `(tactic| walk_at "n") => `(tactic| first
  | ((with_reducible refine gN "found" ?_); refine we_nm 1 rfl rfl ?_)
  | ((with_reducible refine gN "number" ?_); refine we_nm 2 rfl rfl ?_)
  | ((with_reducible refine gN "numbers" ?_); refine we_nm 0 rfl rfl ?_))
  | `(tactic| walk_at "t") => `(tactic| first
  | ((with_reducible show WS _ _ (Stmt.Assign [Expr.Name _ _] _ _) _ _ _); walk_at "tS")
  | ((with_reducible show WG _ _ (Expr.Name _ _) _ _ _ _); walk_at "tG")
  | ((with_reducible show WS _ _ (Stmt.Assign [Expr.Tuple _ _ _] _ _) _ _ _); refine ws_asg ?_))
  | `(tactic| walk_at "c") => `(tactic| first
  | ((with_reducible refine gCK "divisor_of" ?_); refine we_cl "divisor_of" ?_))
theorem fn_multiple_of {f : Addr} {fd : FuncData} (b_abs : mg "abs" = none) (d_gcd : FD P w K mg base 1 "divisor_of" 2 TGcd0) (Fn : L2.Fun K "multiple_of" "multiple_of" st_multiple_of f fd) :
    FnOk P w K mg base (L2.CX P w) 2 f fd ["numbers"] (spG K TMulZ) := by
  refine fn_ok Fn sc_multiple_of rfl TMulZ_len ?_
  intro cdv A outer s H E N hr ds M Q X' h
  obtain ⟨d, ns, B, rfl, hl, h60, hB, hns, q⟩ := h
  show WB _ _ _ [some _, none, none] _ _
  refine wb_cons ?_
  walk_at "g"
  refine ws_for N (wi_list ?_)
  walk_at "g"
  refine ⟨_, hl, fun j δ' M' => ∃ (L : Int) (x2 : Option D), δ' = [some d, some (.int L), x2] ∧ M' = M ∧ L = lcmF (ns.take j) ∧ 0 < L ∧ L.natAbs ≤ 2 ^ (B * j), ?_, ?_, ?_, ?_⟩
  · exact ⟨1, none, rfl, rfl, rfl, by decide, by rw [Nat.mul_zero]; decide⟩
  · rintro i δ' M' _ ⟨L, x2, rfl, rfl, _⟩
    exact hl
  · rintro j d1 δ' M' hd ⟨L, x2, rfl, rfl, hL, L0, hLb⟩
    obtain ⟨n, hn, rfl⟩ : ∃ n, ns[j]? = some n ∧ d1 = .int n := by
      rw [List.getElem?_map] at hd
      cases hx : ns[j]? with
      | none => rw [hx] at hd; cases hd
      | some x => rw [hx] at hd; exact ⟨x, rfl, (Option.some.inj hd).symm⟩
    have hnm := List.mem_of_getElem? hn
    have nb := hns n hnm
    have hj : j < ns.length := (List.getElem?_eq_some_iff.mp hn).1
    walk_at "g"
    refine iteD (fun z => ?_) (fun n0 => ?_)
    · walk_at "g"
      rw [lcmF_zero (z ▸ hnm)] at q
      exact q
    walk_at "g"
    refine ⟨L, _, rfl, by omega, by split <;> omega, ?_⟩
    have st := mul_step L0 n0
    have gp : 0 < (Int.gcd L (if n < 0 then -n else n) : Int) := by
      have : 0 < Int.gcd L (if n < 0 then -n else n) := Int.gcd_pos_of_ne_zero_left _ (by omega)
      omega
    have gb : (if n < 0 then -n else n).natAbs ≤ 2 ^ B := by split <;> omega
    have gle : (Int.gcd L (if n < 0 then -n else n) : Int) ≤ (if n < 0 then -n else n) := Int.le_of_dvd (by split <;> omega) (Int.gcd_dvd_right ..)
    have lp : 0 < (Int.lcm L n : Int) := by
      have : 0 < Int.lcm L n := Int.lcm_pos (by omega) n0
      omega
    have Bj : B * j < 2 ^ 20 := Nat.lt_of_le_of_lt (Nat.le_trans (Nat.mul_le_mul_left B (Nat.le_of_lt hj)) h60) (by decide)
    have gg := Nat.mul_le_mul (abs_ediv L gp) gb
    rw [← Int.natAbs_mul, st] at gg
    generalize (Int.gcd L (if n < 0 then -n else n) : Int) = dd at *
    walk_at "g"
    all_goals first
      | exact ⟨gp, by have := lg (i := dd) (k := B) (by omega) hB; omega⟩
      | exact IntMulOk.of_bits (bits_of (Nat.le_trans (abs_ediv L gp) hLb) Bj) (bt gb hB)
      | skip
    rw [st]
    refine ⟨_, _, rfl, rfl, ?_, lp, ?_⟩
    · rw [List.take_add_one, hn]
      show _ = lcmF (ns.take j ++ [n])
      rw [lcmF_snoc, ← hL]
    · rw [Nat.mul_add, Nat.mul_one, Nat.pow_add]
      exact Nat.le_trans gg (Nat.mul_le_mul hLb (Nat.le_refl _))
  · rintro δ' M' ⟨L, x2, rfl, rfl, hL, L0, hLb⟩
    rw [List.length_map, List.take_length] at hL
    walk_at "g"
    rw [hL]
    exact q
end
/-! FiD -/
set_option exponentiation.threshold 100000
def fDiff (y : Int) : D → D
  | .int o => .int (y - o)
  | _ => .non
/-- the steps, in a new list -/
def TSteps : TSp := fun ds M Q _ => ∃ (d e : D) (xs : List (Int × Int)) (ps : List Int), ds = [d, e] ∧ LV M d (bookD xs) ∧ LV M e (ps.map D.int) ∧ BookOk xs ∧ PlOk xs ps ∧ ∀ p rest, Q (.cel p) (rest ++ (p, .lst ((stepsF xs ps).map D.int)) :: M)
theorem TSteps_mono : Mono TSteps := fun ds M Q Q' E E' h _ ⟨d, e, xs, ps, h1, h2, h3, h4, h5, h6⟩ => ⟨d, e, xs, ps, h1, h2, h3, h4, h5, fun p r => h _ _ (h6 p r)⟩
theorem TSteps_len : ∀ ds M Q E, TSteps ds M Q E → ds.length = 2 := fun ds M Q E h => by obtain ⟨_, _, _, _, rfl, _⟩ := h; rfl
section
variable {P : Program} {w : World} {K : PySem.W.Frag} {mg : Str → Option Value} {base : Heap}
local macro_rules
  | `(tactic| walk_at "ok") => `(tactic| first
  | ((show BlkOk N_steps_in (defScope st_steps_in) _ _); exact blkOk_by (by decide +kernel)))
  | `(tactic| walk_at "tS") => `(tactic| first
  | ((with_reducible refine gS "found" ?_); refine ws_st 2 ?_)
  | ((with_reducible refine gS "others" ?_); refine ws_st 5 ?_))
  | `(tactic| walk_at "tG") => `(tactic| first
  | ((with_reducible refine gG "index" ?_); refine wg_nm 3 ?_)
  | ((with_reducible refine gG "place" ?_); refine wg_nm 4 ?_)
  | ((with_reducible refine gG "told" ?_); refine wg_nm 6 ?_)
  | ((with_reducible refine gG "value" ?_); refine wg_nm 7 ?_)
  | ((with_reducible refine gG "other" ?_); refine wg_nm 8 ?_))
  | `(tactic| walk_at "eWECall") => `(tactic| first
  | ((with_reducible show WE _ _ (Expr.Call (Expr.Attribute _ "append" _) _ _ _) _ _ _); refine we_append ?_)
  | ((with_reducible show WE _ _ (Expr.Call (Expr.Name _ _) _ _ _) _ _ _); walk_at "c"))
  | `(tactic| walk_at "n") => `(tactic| first
  | ((with_reducible refine gN "places" ?_); refine we_nm 1 rfl rfl ?_)
  | ((with_reducible refine gN "found" ?_); refine we_nm 2 rfl rfl ?_)
  | ((with_reducible refine gN "book" ?_); refine we_nm 0 rfl rfl ?_)
  | ((with_reducible refine gN "index" ?_); refine we_nm 3 rfl rfl ?_)
  | ((with_reducible refine gN "place" ?_); refine we_nm 4 rfl rfl ?_)
  | ((with_reducible refine gN "others" ?_); refine we_nm 5 rfl rfl ?_)
  | ((with_reducible refine gN "told" ?_); refine we_nm 6 rfl rfl ?_)
  | ((with_reducible refine gN "other" ?_); refine we_nm 8 rfl rfl ?_))
  | `(tactic| walk_at "t") => `(tactic| first
  | ((with_reducible show WS _ _ (Stmt.Assign [Expr.Name _ _] _ _) _ _ _); walk_at "tS")
  | ((with_reducible show WG _ _ (Expr.Name _ _) _ _ _ _); walk_at "tG")
  | ((with_reducible show WS _ _ (Stmt.Assign [Expr.Tuple _ _ _] _ _) _ _ _); refine ws_asg ?_))
  | `(tactic| walk_at "c") => `(tactic| first
  | ((with_reducible refine gCK "multiple_of" ?_); refine we_cl "multiple_of" ?_))
  | `(tactic| walk_at "tg") => `(tactic| first
  | exact Tg.two (i := 6) (j := 7) rfl rfl (by decide) rfl rfl
  | exact Tg.one (i := 8) rfl rfl)
theorem fn_steps_in {f : Addr} {fd : FuncData} (b_enum : mg "enumerate" = none) (d_mul : FD P w K mg base 2 "multiple_of" 1 TMulZ) (Fn : L2.Fun K "steps_in" "steps_in" st_steps_in f fd) :
    FnOk P w K mg base (L2.CX P w) 3 f fd ["book", "places"] (spG K TSteps) := by
  refine fn_ok Fn sc_steps_in rfl TSteps_len ?_
  intro cdv A outer s H E N hr ds M Q X' h
  obtain ⟨d, e, xs, ps, rfl, hl, hl2, hb, hp, q⟩ := h
  obtain ⟨p1, p8, psm, pnd⟩ := hp
  have hx := hb.1
  show WB _ _ _ [some _, some _, none, none, none, none, none, none, none] _ _
  refine wb_cons ?_
  walk_at "t"
  refine we_lstC ?_
  walk_at "g"
  intro p
  refine wb_cons ?_
  refine ws_for N (wi_enum rfl (by assumption) ?_)
  walk_at "g"
  refine ⟨_, _, rfl, hl2.cons, fun i δ' M' => ∃ (x3 x4 x5 : Option D), δ' = [some d, some e, some (.cel p), x3, x4, x5, none, none, none] ∧ M' = (p, .lst (((List.range i).map (stepF xs ps)).map D.int)) :: M, ?_, ?_, ?_, ?_⟩
  · exact ⟨none, none, none, rfl, rfl⟩
  · rintro i δ' M' hi ⟨x3, x4, x5, rfl, rfl⟩
    exact hl2.cons
  · rintro j dd δ' M' hd ⟨x3, x4, x5, rfl, rfl⟩
    obtain ⟨z, hz, rfl⟩ := enumD_inv hd
    obtain ⟨y, hy, rfl⟩ : ∃ y, ps[j]? = some y ∧ z = .int y := by
      rw [List.getElem?_map] at hz
      cases e1 : ps[j]? with
      | none => rw [e1] at hz; cases hz
      | some y => rw [e1] at hz; exact ⟨y, rfl, (Option.some.inj hz).symm⟩
    have hj : j < ps.length := (List.getElem?_eq_some_iff.mp hy).1
    walk_at "g"
    refine we_froz 0 (we_lcM fPl N (by walk_at "tg") (by walk_at "ok") (wi_list ?_))
    walk_at "g"
    refine ⟨_, hl.cons, ?_, fun _ _ => (hl.cons).cons, ?_, ?_⟩
    · unfold bookD; rw [List.length_map, sizeLine_eq]; omega
    · intro i d' acc p2 hd
      obtain ⟨u, hu, rfl⟩ := List.mem_map.mp (List.mem_of_getElem? hd)
      refine ⟨_, ⟨_, _, rfl, rfl⟩, fun B => ?_⟩
      walk_at "g"
      exact ⟨rfl, rfl⟩
    intro p2
    refine ⟨p2, _, rfl, rfl, ?_⟩
    rw [show (bookD xs).map fPl = (xs.map Prod.fst).map D.int by unfold bookD; rw [List.map_map, List.map_map]; rfl]
    walk_at "g"
    refine .inl ⟨_, hl2.cons, ?_⟩
    rw [cutD_0, ← List.map_take]
    refine .inr (.inr ⟨_, _, .l, .l, by rw [List.length_map, List.length_map, List.length_map, List.length_take, sizeLine_eq]; omega, ?_⟩)
    rw [← List.map_append]
    walk_at "g"
    refine we_froz 0 (we_lcM (fDiff y) N (by walk_at "tg") (by walk_at "ok") (wi_list ?_))
    walk_at "g"
    refine ⟨_, .l, ?_, fun _ _ => .l, ?_, ?_⟩
    · rw [List.length_map, List.length_append, List.length_map, List.length_take, sizeLine_eq]; omega
    · intro i d' acc p3 hd
      obtain ⟨o, ho, rfl⟩ := List.mem_map.mp (List.mem_of_getElem? hd)
      refine ⟨_, rfl, fun B => ?_⟩
      walk_at "g"
      all_goals first | rfl | exact ⟨rfl, rfl⟩
    intro p3
    refine ⟨p3, _, rfl, rfl, ?_⟩
    rw [show ((xs.map Prod.fst ++ ps.take j).map D.int).map (fDiff y) = ((othF xs ps j).map fun o => y - o).map D.int by unfold othF; rw [List.map_map, List.map_map]; rfl]
    walk_at "g"
    have hys := psm y (List.mem_of_getElem? hy)
    refine ⟨_, _, 120, rfl, .l, ?_, by decide, ?_, ?_⟩
    · unfold othF
      rw [List.length_map, List.length_append, List.length_map, List.length_take]
      omega
    · intro n hn
      obtain ⟨o, ho, rfl⟩ := List.mem_map.mp hn
      have hos : Small o := by
        rcases List.mem_append.mp ho with h | h
        · obtain ⟨u, hu, rfl⟩ := List.mem_map.mp h
          exact (hb.2.1 u hu).1
        · exact psm o (List.mem_of_mem_take h)
      unfold Small at hos hys
      omega
    walk_at "g"
    refine ⟨by rw [List.length_map, List.length_map, List.length_range, sizeLine_eq]; omega, _, _, _, rfl, ?_⟩
    have e1 : lcmF ((othF xs ps j).map fun o => y - o) = stepF xs ps j := by
      unfold stepF
      rw [List.getD_eq_getElem?_getD, hy]
      rfl
    rw [e1, List.range_succ, List.map_append, List.map_append]
    rfl
  · rintro δ' M' ⟨x3, x4, x5, rfl, rfl⟩
    rw [enumD_len, List.length_map]
    walk_at "g"
    exact q p []
end
/-! FiE -/
set_option exponentiation.threshold 100000
theorem step_bd {xs : List (Int × Int)} {ps : List Int} (hb : BookOk xs) (hp : PlOk xs ps) {i : Nat} (hi : i < ps.length) : (stepF xs ps i).natAbs ≤ 2 ^ 3264 := by
  obtain ⟨p1, p8, psm, pnd⟩ := hp
  have hx := hb.1
  refine Nat.le_trans (lcmF_bd (B := 102) fun n hn => ?_) (Nat.pow_le_pow_right (by decide) ?_)
  · obtain ⟨o, ho, rfl⟩ := List.mem_map.mp hn
    have gi : ps.getD i 0 = ps[i] := by rw [List.getD_eq_getElem?_getD, List.getElem?_eq_getElem hi]; rfl
    have hys := psm _ (List.getElem_mem hi)
    have hos : Small o := by
      rcases List.mem_append.mp ho with h | h
      · obtain ⟨u, hu, rfl⟩ := List.mem_map.mp h
        exact (hb.2.1 u hu).1
      · exact psm o (List.mem_of_mem_take h)
    rw [gi]
    unfold Small at hos hys
    omega
  · unfold othF
    rw [List.length_map, List.length_append, List.length_map, List.length_take]
    omega
def sizeF (xs : List (Int × Int)) (ps : List Int) : Int := lcmF (stepsF xs ps)
theorem size_bd {xs : List (Int × Int)} {ps : List Int} (hb : BookOk xs) (hp : PlOk xs ps) : (sizeF xs ps).natAbs ≤ 2 ^ 26112 := by
  refine Nat.le_trans (lcmF_bd (B := 3264) fun n hn => ?_) (Nat.pow_le_pow_right (by decide) ?_)
  · obtain ⟨i, hi, rfl⟩ := steps_mem hn
    exact step_bd hb hp hi
  · rw [steps_len]
    have := hp.2.1
    omega
/-- a size that is let -/
structure SzOk (xs : List (Int × Int)) (ps : List Int) (size : Int) : Prop where
  poss : PossOk xs
  pl : PlOk xs ps
  one : 1 ≤ size
  dv : sizeF xs ps ∣ size
  le : size ≤ sizeF xs ps * 1000000000000000000000000000000
theorem SzOk.opn {xs : List (Int × Int)} {ps : List Int} {size : Int} (O : SzOk xs ps size) : Opn xs ps size :=
  ⟨O.poss.2, O.pl.2.2.2, by have := O.one; omega, fun i hi => Int.dvd_trans ((lcmF_dvd (stepsF xs ps) _).mp (Int.dvd_refl _) _ (List.mem_map.mpr ⟨i, List.mem_range.mpr hi, rfl⟩)) O.dv⟩
theorem SzOk.bd {xs : List (Int × Int)} {ps : List Int} {size : Int} (O : SzOk xs ps size) : size < 2 ^ 30000 := by
  have a := size_bd O.poss.1 O.pl
  have b := O.le
  have c := O.one
  have e : (2 : Int) ^ 30000 = 2 ^ 26112 * 2 ^ 3888 := by rw [← Int.pow_add]
  have f : (1000000000000000000000000000000 : Int) < 2 ^ 3888 := by decide +kernel
  have g : sizeF xs ps ≤ 2 ^ 26112 := by
    have : ((sizeF xs ps).natAbs : Int) ≤ ((2 ^ 26112 : Nat) : Int) := Int.ofNat_le.mpr a
    rw [Int.natCast_pow] at this
    have := Int.le_natAbs (a := sizeF xs ps)
    exact Int.le_trans this (by assumption)
  have g0 : 0 < sizeF xs ps := by
    refine Int.not_le.mp fun h => ?_
    have : sizeF xs ps * 1000000000000000000000000000000 ≤ 0 := Int.mul_nonpos_of_nonpos_of_nonneg h (by decide)
    omega
  rw [e]
  refine Int.lt_of_le_of_lt b (Int.lt_of_le_of_lt (Int.mul_le_mul_of_nonneg_right g (by decide)) ?_)
  exact Int.mul_lt_mul_of_pos_left f (Int.pow_pos (by decide))
theorem SzOk.steps {xs : List (Int × Int)} {ps : List Int} {size : Int} (O : SzOk xs ps size) : ∀ s ∈ stepsF xs ps, 0 < s ∧ s < 2 ^ 4000 := fun s hs => by
  obtain ⟨i, hi, rfl⟩ := steps_mem hs
  have a := O.opn.step_pos hi
  have b := Nat.le_trans (step_bd O.poss.1 O.pl hi) (Nat.pow_le_pow_right (show 0 < 2 by decide) (show 3264 ≤ 3999 by decide))
  refine ⟨a, ?_⟩
  have c : ((stepF xs ps i).natAbs : Int) ≤ ((2 ^ 3999 : Nat) : Int) := Int.ofNat_le.mpr b
  rw [Int.natCast_pow] at c
  have d := Int.le_natAbs (a := stepF xs ps i)
  refine Int.lt_of_le_of_lt (Int.le_trans d c) ?_
  exact Int.pow_lt_pow_of_lt (by decide) (by decide)
/-- the steps, frozen -/
def TStepsF : TSp := fun ds M Q _ => ∃ (d e : D) (xs : List (Int × Int)) (ps : List Int), ds = [d, e] ∧ LV M d (bookD xs) ∧ LV M e (ps.map D.int) ∧ BookOk xs ∧ PlOk xs ps ∧ Q (.lst ((stepsF xs ps).map D.int)) M
theorem TStepsF_mono : Mono TStepsF := fun ds M Q Q' E E' h _ ⟨d, e, xs, ps, h1, h2, h3, h4, h5, h6⟩ => ⟨d, e, xs, ps, h1, h2, h3, h4, h5, h _ _ h6⟩
theorem steps_frz : ∀ ds M Q E, Clr Q → TStepsF ds M Q E → TSteps ds M Q E := fun ds M Q E c ⟨d, e, xs, ps, h1, h2, h3, h4, h5, h6⟩ => ⟨d, e, xs, ps, h1, h2, h3, h4, h5, fun p r => c p _ r _ h6⟩
def TSizeIn : TSp := fun ds M Q _ => ∃ (d e : D) (xs : List (Int × Int)) (ps : List Int), ds = [d, e] ∧ LV M d (bookD xs) ∧ LV M e (ps.map D.int) ∧ BookOk xs ∧ PlOk xs ps ∧ Q (.int (sizeF xs ps)) M
theorem TSizeIn_mono : Mono TSizeIn := fun ds M Q Q' E E' h _ ⟨d, e, xs, ps, h1, h2, h3, h4, h5, h6⟩ => ⟨d, e, xs, ps, h1, h2, h3, h4, h5, h _ _ h6⟩
theorem TSizeIn_len : ∀ ds M Q E, TSizeIn ds M Q E → ds.length = 2 := fun ds M Q E h => by obtain ⟨_, _, _, _, rfl, _⟩ := h; rfl
section
variable {P : Program} {w : World} {K : PySem.W.Frag} {mg : Str → Option Value} {base : Heap}
local macro_rules
  | `(tactic| walk_at "ok") => `(tactic| first
  | ((show BlkOk N_size_in (defScope st_size_in) _ _); exact blkOk_by (by decide +kernel)))
  | `(tactic| walk_at "eWECall") => `(tactic| first
  | ((with_reducible show WE _ _ (Expr.Call (Expr.Name _ _) _ _ _) _ _ _); walk_at "c"))
  | `(tactic| walk_at "n") => `(tactic| first
  | ((with_reducible refine gN "book" ?_); refine we_nm 0 rfl rfl ?_)
  | ((with_reducible refine gN "places" ?_); refine we_nm 1 rfl rfl ?_))
  | `(tactic| walk_at "t") => `(tactic| first
  | ((with_reducible show WS _ _ (Stmt.Assign [Expr.Tuple _ _ _] _ _) _ _ _); refine ws_asg ?_))
  | `(tactic| walk_at "c") => `(tactic| first
  | ((with_reducible refine gCK "multiple_of" ?_); refine we_cl "multiple_of" ?_)
  | ((with_reducible refine gCK "steps_in" ?_); refine we_cl "steps_in" ?_))
theorem fn_size_in {f : Addr} {fd : FuncData} (d_mul : FD P w K mg base 2 "multiple_of" 1 TMulZ) (d_steps : FD P w K mg base 3 "steps_in" 2 TStepsF) (Fn : L2.Fun K "size_in" "size_in" st_size_in f fd) :
    FnOk P w K mg base (L2.CX P w) 4 f fd ["book", "places"] (spG K TSizeIn) := by
  refine fn_ok Fn sc_size_in rfl TSizeIn_len ?_
  intro cdv A outer s H E N hr ds M Q X' h
  obtain ⟨d, e, xs, ps, rfl, hl, hl2, hb, hp, q⟩ := h
  show WB _ _ _ [some _, some _] _ _
  refine wb_cons ?_
  walk_at "g"
  refine ⟨d, e, xs, ps, rfl, hl, hl2, hb, hp, ?_⟩
  walk_at "g"
  refine ⟨_, stepsF xs ps, 3264, rfl, .l, ?_, by decide, fun n hn => ?_, q⟩
  · rw [steps_len]
    have := hp.2.1
    omega
  · obtain ⟨i, hi, rfl⟩ := steps_mem hn
    exact step_bd hb hp hi
end
def TNeedSz : TSp := fun ds M Q _ => ∃ (d e : D) (xs : List (Int × Int)) (ps : List Int) (size : Int), ds = [d, e, .int size] ∧ LV M d (bookD xs) ∧ LV M e (ps.map D.int) ∧ SzOk xs ps size ∧ Q .non M
theorem TNeedSz_mono : Mono TNeedSz := fun ds M Q Q' E E' h _ ⟨d, e, xs, ps, z, h1, h2, h3, h4, h5⟩ => ⟨d, e, xs, ps, z, h1, h2, h3, h4, h _ _ h5⟩
theorem TNeedSz_len : ∀ ds M Q E, TNeedSz ds M Q E → ds.length = 3 := fun ds M Q E h => by obtain ⟨_, _, _, _, _, rfl, _⟩ := h; rfl
section
variable {P : Program} {w : World} {K : PySem.W.Frag} {mg : Str → Option Value} {base : Heap}
local macro_rules
  | `(tactic| walk_at "ok") => `(tactic| first
  | ((show BlkOk N_need_size (defScope st_need_size) _ _); exact blkOk_by (by decide +kernel)))
  | `(tactic| walk_at "tS") => `(tactic| first
  | ((with_reducible refine gS "common" ?_); refine ws_st 3 ?_))
  | `(tactic| walk_at "eWECall") => `(tactic| first
  | ((with_reducible show WE _ _ (Expr.Call (Expr.Name _ _) _ _ _) _ _ _); walk_at "c"))
  | `(tactic| walk_at "n") => `(tactic| first
  | ((with_reducible refine gN "book" ?_); refine we_nm 0 rfl rfl ?_)
  | ((with_reducible refine gN "size" ?_); refine we_nm 2 rfl rfl ?_)
  | ((with_reducible refine gN "places" ?_); refine we_nm 1 rfl rfl ?_)
  | ((with_reducible refine gN "common" ?_); refine we_nm 3 rfl rfl ?_)
  | ((with_reducible show WE _ _ (Expr.Name "MOST_ROUNDS" _) _ _ _); refine we_globI rfl (by assumption) ?_))
  | `(tactic| walk_at "t") => `(tactic| first
  | ((with_reducible show WS _ _ (Stmt.Assign [Expr.Name _ _] _ _) _ _ _); walk_at "tS")
  | ((with_reducible show WS _ _ (Stmt.Assign [Expr.Tuple _ _ _] _ _) _ _ _); refine ws_asg ?_))
  | `(tactic| walk_at "c") => `(tactic| first
  | ((with_reducible refine gCK "need_open" ?_); refine we_cl "need_open" ?_)
  | ((with_reducible refine gCK "need_fitting" ?_); refine we_cl "need_fitting" ?_)
  | ((with_reducible refine gCK "size_in" ?_); refine we_cl "size_in" ?_)
  | ((with_reducible refine gCK "divides" ?_); refine we_cl "divides" ?_))
theorem fn_need_size {f : Addr} {fd : FuncData} (c1 : ∃ t, mg "MOST_ROUNDS" = some (.int 1000000000000000000000000000000 t)) (d_div : FD P w K mg base 1 "divides" 2 TDivs) (d_fit : FD P w K mg base 5 "need_fitting" 1 TPoss) (d_open : FD P w K mg base 6 "need_open" 2 TOpen) (d_size : FD P w K mg base 4 "size_in" 2 TSizeIn) (Fn : L2.Fun K "need_size" "need_size" st_need_size f fd) :
    FnOk P w K mg base (L2.CX P w) 7 f fd ["book", "places", "size"] (spG K TNeedSz) := by
  refine fn_ok Fn sc_need_size rfl TNeedSz_len ?_
  intro cdv A outer s H E N hr ds M Q X' h
  obtain ⟨d, e, xs, ps, size, rfl, hl, hl2, O, q⟩ := h
  have bd := size_bd O.poss.1 O.pl
  show WB _ _ _ [some _, some _, some _, none] _ _
  refine wb_cons ?_
  walk_at "g"
  refine ⟨d, e, xs, ps, rfl, hl, hl2, O.poss.1, O.pl, ?_⟩
  walk_at "g"
  refine ⟨d, xs, rfl, hl, O.poss, ?_⟩
  walk_at "g"
  refine ⟨d, e, xs, ps, rfl, hl, hl2, O.poss.1, O.pl, ?_⟩
  walk_at "g"
  refine iteQ (decide_eq_false (by have := O.one; omega)) ?_
  walk_at "g"
  refine ⟨_, _, rfl, ?_⟩
  rw [decide_eq_true O.dv]
  walk_at "g"
  rotate_left 1
  · exact IntMulOk.of_bits (bits_of bd (by decide)) (by decide)
  refine iteQ (decide_eq_false (by have := O.le; omega)) ?_
  walk_at "g"
  exact q
end
/-! FiF -/
set_option exponentiation.threshold 100000
def TStepL : TSp := fun ds M Q _ => ∃ (d e : D) (xs : List (Int × Int)) (ps : List Int), ds = [d, e] ∧ LV M d (bookD xs) ∧ LV M e (ps.map D.int) ∧ PossOk xs ∧ PlOk xs ps ∧ ∀ p rest, Q (.cel p) (rest ++ (p, .lst ((stepsF xs ps).map D.int)) :: M)
theorem TStepL_len : ∀ ds M Q E, TStepL ds M Q E → ds.length = 2 := fun ds M Q E h => by obtain ⟨_, _, _, _, rfl, _⟩ := h; rfl
def TStepLF : TSp := fun ds M Q _ => ∃ (d e : D) (xs : List (Int × Int)) (ps : List Int), ds = [d, e] ∧ LV M d (bookD xs) ∧ LV M e (ps.map D.int) ∧ PossOk xs ∧ PlOk xs ps ∧ Q (.lst ((stepsF xs ps).map D.int)) M
theorem TStepLF_mono : Mono TStepLF := fun ds M Q Q' E E' h _ ⟨d, e, xs, ps, h1, h2, h3, h4, h5, h6⟩ => ⟨d, e, xs, ps, h1, h2, h3, h4, h5, h _ _ h6⟩
theorem stepl_frz : ∀ ds M Q E, Clr Q → TStepLF ds M Q E → TStepL ds M Q E := fun ds M Q E c ⟨d, e, xs, ps, h1, h2, h3, h4, h5, h6⟩ => ⟨d, e, xs, ps, h1, h2, h3, h4, h5, fun p r => c p _ r _ h6⟩
section
variable {P : Program} {w : World} {K : PySem.W.Frag} {mg : Str → Option Value} {base : Heap}
local macro_rules
  | `(tactic| walk_at "ok") => `(tactic| first
  | ((show BlkOk N_step_list (defScope st_step_list) _ _); exact blkOk_by (by decide +kernel)))
  | `(tactic| walk_at "eWECall") => `(tactic| first
  | ((with_reducible show WE _ _ (Expr.Call (Expr.Name _ _) _ _ _) _ _ _); walk_at "c"))
  | `(tactic| walk_at "n") => `(tactic| first
  | ((with_reducible refine gN "book" ?_); refine we_nm 0 rfl rfl ?_)
  | ((with_reducible refine gN "places" ?_); refine we_nm 1 rfl rfl ?_))
  | `(tactic| walk_at "t") => `(tactic| first
  | ((with_reducible show WS _ _ (Stmt.Assign [Expr.Tuple _ _ _] _ _) _ _ _); refine ws_asg ?_))
  | `(tactic| walk_at "c") => `(tactic| first
  | ((with_reducible refine gCK "need_open" ?_); refine we_cl "need_open" ?_)
  | ((with_reducible refine gCK "need_fitting" ?_); refine we_cl "need_fitting" ?_)
  | ((with_reducible refine gCK "steps_in" ?_); refine we_cl "steps_in" ?_))
theorem fn_step_list {f : Addr} {fd : FuncData} (d_fit : FD P w K mg base 5 "need_fitting" 1 TPoss) (d_open : FD P w K mg base 6 "need_open" 2 TOpen) (d_steps : FD P w K mg base 3 "steps_in" 2 TSteps) (Fn : L2.Fun K "step_list" "step_list" st_step_list f fd) :
    FnOk P w K mg base (L2.CX P w) 7 f fd ["book", "places"] (spG K TStepL) := by
  refine fn_ok Fn sc_step_list rfl TStepL_len ?_
  intro cdv A outer s H E N hr ds M Q X' h
  obtain ⟨d, e, xs, ps, rfl, hl, hl2, hb, hp, q⟩ := h
  show WB _ _ _ [some _, some _] _ _
  refine wb_cons ?_
  walk_at "g"
  refine ⟨d, e, xs, ps, rfl, hl, hl2, hb.1, hp, ?_⟩
  walk_at "g"
  refine ⟨d, xs, rfl, hl, hb, ?_⟩
  walk_at "g"
  exact ⟨d, e, xs, ps, rfl, hl, hl2, hb.1, hp, q⟩
end
def TComSz : TSp := fun ds M Q _ => ∃ (d e : D) (xs : List (Int × Int)) (ps : List Int), ds = [d, e] ∧ LV M d (bookD xs) ∧ LV M e (ps.map D.int) ∧ PossOk xs ∧ PlOk xs ps ∧ Q (.int (sizeF xs ps)) M
theorem TComSz_mono : Mono TComSz := fun ds M Q Q' E E' h _ ⟨d, e, xs, ps, h1, h2, h3, h4, h5, h6⟩ => ⟨d, e, xs, ps, h1, h2, h3, h4, h5, h _ _ h6⟩
theorem TComSz_len : ∀ ds M Q E, TComSz ds M Q E → ds.length = 2 := fun ds M Q E h => by obtain ⟨_, _, _, _, rfl, _⟩ := h; rfl
section
variable {P : Program} {w : World} {K : PySem.W.Frag} {mg : Str → Option Value} {base : Heap}
local macro_rules
  | `(tactic| walk_at "ok") => `(tactic| first
  | ((show BlkOk N_common_size (defScope st_common_size) _ _); exact blkOk_by (by decide +kernel)))
  | `(tactic| walk_at "eWECall") => `(tactic| first
  | ((with_reducible show WE _ _ (Expr.Call (Expr.Name _ _) _ _ _) _ _ _); walk_at "c"))
  | `(tactic| walk_at "n") => `(tactic| first
  | ((with_reducible refine gN "book" ?_); refine we_nm 0 rfl rfl ?_)
  | ((with_reducible refine gN "places" ?_); refine we_nm 1 rfl rfl ?_))
  | `(tactic| walk_at "t") => `(tactic| first
  | ((with_reducible show WS _ _ (Stmt.Assign [Expr.Tuple _ _ _] _ _) _ _ _); refine ws_asg ?_))
  | `(tactic| walk_at "c") => `(tactic| first
  | ((with_reducible refine gCK "need_open" ?_); refine we_cl "need_open" ?_)
  | ((with_reducible refine gCK "need_fitting" ?_); refine we_cl "need_fitting" ?_)
  | ((with_reducible refine gCK "size_in" ?_); refine we_cl "size_in" ?_))
theorem fn_common_size {f : Addr} {fd : FuncData} (d_fit : FD P w K mg base 5 "need_fitting" 1 TPoss) (d_open : FD P w K mg base 6 "need_open" 2 TOpen) (d_size : FD P w K mg base 4 "size_in" 2 TSizeIn) (Fn : L2.Fun K "common_size" "common_size" st_common_size f fd) :
    FnOk P w K mg base (L2.CX P w) 7 f fd ["book", "places"] (spG K TComSz) := by
  refine fn_ok Fn sc_common_size rfl TComSz_len ?_
  intro cdv A outer s H E N hr ds M Q X' h
  obtain ⟨d, e, xs, ps, rfl, hl, hl2, hb, hp, q⟩ := h
  show WB _ _ _ [some _, some _] _ _
  refine wb_cons ?_
  walk_at "g"
  refine ⟨d, e, xs, ps, rfl, hl, hl2, hb.1, hp, ?_⟩
  walk_at "g"
  refine ⟨d, xs, rfl, hl, hb, ?_⟩
  walk_at "g"
  exact ⟨d, e, xs, ps, rfl, hl, hl2, hb.1, hp, q⟩
end
def TCntFil : TSp := fun ds M Q _ => ∃ (d e : D) (xs : List (Int × Int)) (ps : List Int) (size : Int), ds = [d, e, .int size] ∧ LV M d (bookD xs) ∧ LV M e (ps.map D.int) ∧ SzOk xs ps size ∧ Q (.int (cntF (stepsF xs ps) size)) M
theorem TCntFil_mono : Mono TCntFil := fun ds M Q Q' E E' h _ ⟨d, e, xs, ps, z, h1, h2, h3, h4, h5⟩ => ⟨d, e, xs, ps, z, h1, h2, h3, h4, h _ _ h5⟩
theorem TCntFil_len : ∀ ds M Q E, TCntFil ds M Q E → ds.length = 3 := fun ds M Q E h => by obtain ⟨_, _, _, _, _, rfl, _⟩ := h; rfl
section
variable {P : Program} {w : World} {K : PySem.W.Frag} {mg : Str → Option Value} {base : Heap}
local macro_rules
  | `(tactic| walk_at "ok") => `(tactic| first
  | ((show BlkOk N_count_fillings (defScope st_count_fillings) _ _); exact blkOk_by (by decide +kernel)))
  | `(tactic| walk_at "eWECall") => `(tactic| first
  | ((with_reducible show WE _ _ (Expr.Call (Expr.Name _ _) _ _ _) _ _ _); walk_at "c"))
  | `(tactic| walk_at "n") => `(tactic| first
  | ((with_reducible refine gN "book" ?_); refine we_nm 0 rfl rfl ?_)
  | ((with_reducible refine gN "places" ?_); refine we_nm 1 rfl rfl ?_)
  | ((with_reducible refine gN "size" ?_); refine we_nm 2 rfl rfl ?_))
  | `(tactic| walk_at "t") => `(tactic| first
  | ((with_reducible show WS _ _ (Stmt.Assign [Expr.Tuple _ _ _] _ _) _ _ _); refine ws_asg ?_))
  | `(tactic| walk_at "c") => `(tactic| first
  | ((with_reducible refine gCK "need_size" ?_); refine we_cl "need_size" ?_)
  | ((with_reducible refine gCK "count_in" ?_); refine we_cl "count_in" ?_)
  | ((with_reducible refine gCK "steps_in" ?_); refine we_cl "steps_in" ?_))
theorem fn_count_fillings {f : Addr} {fd : FuncData} (d_sz : FD P w K mg base 7 "need_size" 3 TNeedSz) (d_steps : FD P w K mg base 3 "steps_in" 2 TStepsF) (d_cnt : FD P w K mg base 1 "count_in" 2 TCnt) (Fn : L2.Fun K "count_fillings" "count_fillings" st_count_fillings f fd) :
    FnOk P w K mg base (L2.CX P w) 8 f fd ["book", "places", "size"] (spG K TCntFil) := by
  refine fn_ok Fn sc_count_fillings rfl TCntFil_len ?_
  intro cdv A outer s H E N hr ds M Q X' h
  obtain ⟨d, e, xs, ps, size, rfl, hl, hl2, O, q⟩ := h
  show WB _ _ _ [some _, some _, some _] _ _
  refine wb_cons ?_
  walk_at "g"
  refine ⟨d, e, xs, ps, size, rfl, hl, hl2, O, ?_⟩
  walk_at "g"
  refine ⟨d, e, xs, ps, rfl, hl, hl2, O.poss.1, O.pl, ?_⟩
  walk_at "g"
  exact ⟨_, stepsF xs ps, size, rfl, .l, by rw [steps_len]; exact O.pl.2.1, O.steps, by have := O.one; omega, O.bd, q⟩
end
def TNthFil : TSp := fun ds M Q _ => ∃ (d e : D) (xs : List (Int × Int)) (ps : List Int) (size k : Int), ds = [d, e, .int size, .int k] ∧ LV M d (bookD xs) ∧ LV M e (ps.map D.int) ∧ SzOk xs ps size ∧ 0 ≤ k ∧ k < cntF (stepsF xs ps) size ∧ (∀ i, i < ps.length → (latF xs ps size (i + 1)).natAbs.log2 < 9000) ∧ ∀ p rest, Q (.cel p) (rest ++ (p, .lst ((fillF xs ps size ps.length k).map D.int)) :: M)
theorem TNthFil_len : ∀ ds M Q E, TNthFil ds M Q E → ds.length = 4 := fun ds M Q E h => by obtain ⟨_, _, _, _, _, _, rfl, _⟩ := h; rfl
theorem zip_ints (ps vs : List Int) : zipD (ps.map D.int) (vs.map D.int) = bookD (ps.zip vs) := by
  unfold zipD bookD
  rw [List.zip_map, List.map_map]
  rfl
theorem cls_argF {xs : List (Int × Int)} {ps vs : List Int} {size : Int} {i : Nat} (O : Opn xs ps size) (hb : BookOk xs) (pl : PlOk xs ps) (G : Fits (xs ++ ps.zip vs)) (gl : vs.length = i) (h : i < ps.length) {M : Cells} {d : D} (hl : LV M d (bookD (xs ++ ps.zip vs))) {Q : D → Cells → Prop}
    (q : Q (.tup [.int (leastF (xs ++ ps.zip vs) (ps.getD i 0)), .int (stepF xs ps i)]) M) {E : Ex → Cells → Prop} : TClsBy [d, .int (ps.getD i 0)] M Q E := by
  subst gl
  have gi : ps.getD vs.length 0 = ps[vs.length] := by rw [List.getD_eq_getElem?_getD, List.getElem?_eq_getElem h]; rfl
  have p8 := pl.2.1
  have x24 := hb.1
  refine ⟨d, _, _, leastF (xs ++ ps.zip vs) (ps.getD vs.length 0), 31, 110, rfl, hl, ⟨?_, by decide, by decide⟩, ?_, ?_, least_fit G _, fun ⟨x, hx, e⟩ => absurd e (O.unt h x hx), fun hne L hL => ?_⟩
  · rw [List.length_append, List.length_zip]; omega
  · intro x hx
    have : x.1 ∈ othF xs ps vs.length := by rw [← bk_fst (Nat.le_of_lt h)]; exact List.mem_map.mpr ⟨x, hx, rfl⟩
    have s : Small x.1 := by
      rcases List.mem_append.mp this with g | g
      · obtain ⟨u, hu, e⟩ := List.mem_map.mp g
        rw [← e]
        exact (hb.2.1 u hu).1
      · exact pl.2.2.1 _ (List.mem_of_mem_take g)
    unfold Small at s
    omega
  · have s := pl.2.2.1 _ (List.getElem_mem h)
    rw [gi]
    unfold Small at s
    omega
  · have e := lcmF_of hL
    rw [show ((xs ++ ps.zip vs).map fun x => ps.getD vs.length 0 - x.1) = difP (xs ++ ps.zip vs) (ps.getD vs.length 0) from rfl, bk_step (Nat.le_of_lt h)] at e
    subst e
    obtain ⟨a, b⟩ := least_rng (O.unt h)
    rw [bk_step (Nat.le_of_lt h)] at b
    rw [Int.emod_eq_of_lt a b]
    exact q
theorem cls_arg {xs : List (Int × Int)} {ps vs : List Int} {size : Int} {i : Nat} (O : SzOk xs ps size) (G : Good xs ps size vs) (gl : vs.length = i) (h : i < ps.length) {M : Cells} {d : D} (hl : LV M d (bookD (xs ++ ps.zip vs))) {Q : D → Cells → Prop}
    (q : Q (.tup [.int (leastF (xs ++ ps.zip vs) (ps.getD i 0)), .int (stepF xs ps i)]) M) {E : Ex → Cells → Prop} : TClsBy [d, .int (ps.getD i 0)] M Q E :=
  cls_argF O.opn O.poss.1 O.pl G.fit gl h hl q
/-! FiG -/
set_option exponentiation.threshold 100000
theorem cutD_k (ds : List D) (n : Nat) : cutD ds (some (n : Int)) none = ds.drop n := by
  unfold cutD
  have e : HT.sIx ds.length 0 (some (n : Int)) = min n ds.length := by
    show (if (n : Int) < 0 then ((n : Int) + (ds.length : Int)).toNat else min (n : Int).toNat ds.length) = _
    rw [if_neg (by omega)]; rfl
  have e0 : HT.sIx ds.length ds.length none = ds.length := rfl
  rw [e, e0]
  rcases Nat.le_total n ds.length with h | h
  · rw [Nat.min_eq_left h, List.take_of_length_le (by rw [List.length_drop]; exact Nat.le_refl _)]
  · rw [Nat.min_eq_right h, Nat.sub_self, List.take_zero, List.drop_of_length_le h]
section
variable {P : Program} {w : World} {K : PySem.W.Frag} {mg : Str → Option Value} {base : Heap}
local macro_rules
  | `(tactic| walk_at "ok") => `(tactic| first
  | ((show BlkOk N_nth_filling (defScope st_nth_filling) _ _); exact blkOk_by (by decide +kernel)))
  | `(tactic| walk_at "tS") => `(tactic| first
  | ((with_reducible refine gS "steps" ?_); refine ws_st 4 ?_)
  | ((with_reducible refine gS "later" ?_); refine ws_st 9 ?_))
  | `(tactic| walk_at "tG") => `(tactic| first
  | ((with_reducible refine gG "found" ?_); refine wg_nm 5 ?_)
  | ((with_reducible refine gG "rest" ?_); refine wg_nm 6 ?_)
  | ((with_reducible refine gG "number" ?_); refine wg_nm 7 ?_)
  | ((with_reducible refine gG "place" ?_); refine wg_nm 8 ?_)
  | ((with_reducible refine gG "rounds" ?_); refine wg_nm 10 ?_)
  | ((with_reducible refine gG "least" ?_); refine wg_nm 11 ?_)
  | ((with_reducible refine gG "step" ?_); refine wg_nm 12 ?_))
  | `(tactic| walk_at "eWECall") => `(tactic| first
  | ((with_reducible show WE _ _ (Expr.Call (Expr.Name _ _) _ _ _) _ _ _); walk_at "c")
  | ((with_reducible show WE _ _ (Expr.Call (Expr.Attribute _ "append" _) _ _ _) _ _ _); refine we_append ?_)
  | ((with_reducible refine gC "list" ?_); refine we_list rfl (by assumption) ?_))
  | `(tactic| walk_at "n") => `(tactic| first
  | ((with_reducible refine gN "places" ?_); refine we_nm 1 rfl rfl ?_)
  | ((with_reducible refine gN "book" ?_); refine we_nm 0 rfl rfl ?_)
  | ((with_reducible refine gN "size" ?_); refine we_nm 2 rfl rfl ?_)
  | ((with_reducible refine gN "found" ?_); refine we_nm 5 rfl rfl ?_)
  | ((with_reducible refine gN "index" ?_); refine we_nm 3 rfl rfl ?_)
  | ((with_reducible refine gN "steps" ?_); refine we_nm 4 rfl rfl ?_)
  | ((with_reducible refine gN "rest" ?_); refine we_nm 6 rfl rfl ?_)
  | ((with_reducible refine gN "later" ?_); refine we_nm 9 rfl rfl ?_)
  | ((with_reducible refine gN "number" ?_); refine we_nm 7 rfl rfl ?_)
  | ((with_reducible refine gN "place" ?_); refine we_nm 8 rfl rfl ?_)
  | ((with_reducible refine gN "rounds" ?_); refine we_nm 10 rfl rfl ?_)
  | ((with_reducible refine gN "least" ?_); refine we_nm 11 rfl rfl ?_)
  | ((with_reducible refine gN "step" ?_); refine we_nm 12 rfl rfl ?_)
  | ((with_reducible show WE _ _ (Expr.Name "list" _) _ _ _); refine we_bltn (v := .ty "list") rfl (by assumption) (by decide +kernel) rfl ?_))
  | `(tactic| walk_at "t") => `(tactic| first
  | ((with_reducible show WS _ _ (Stmt.Assign [Expr.Name _ _] _ _) _ _ _); walk_at "tS")
  | ((with_reducible show WG _ _ (Expr.Name _ _) _ _ _ _); walk_at "tG")
  | ((with_reducible show WS _ _ (Stmt.Assign [Expr.Tuple [Expr.Name "found" _, Expr.Name "rest" _] _ _] (Expr.Tuple _ _ _) _) _ _ _); first | refine ws_par (i := 5) (j := 6) (by assumption) rfl rfl (by decide) rfl rfl rfl ?_ | refine ws_asg ?_)
  | ((with_reducible show WS _ _ (Stmt.Assign [Expr.Tuple [Expr.Name "rounds" _, Expr.Name "rest" _] _ _] (Expr.Tuple _ _ _) _) _ _ _); first | refine ws_par (i := 10) (j := 6) (by assumption) rfl rfl (by decide) rfl rfl rfl ?_ | refine ws_asg ?_)
  | ((with_reducible show WS _ _ (Stmt.Assign [Expr.Tuple _ _ _] _ _) _ _ _); refine ws_asg ?_))
  | `(tactic| walk_at "c") => `(tactic| first
  | ((with_reducible refine gCK "count_in" ?_); refine we_cl "count_in" ?_)
  | ((with_reducible refine gCK "need_size" ?_); refine we_cl "need_size" ?_)
  | ((with_reducible refine gCK "steps_in" ?_); refine we_cl "steps_in" ?_)
  | ((with_reducible refine gCK "class_by" ?_); refine we_cl "class_by" ?_))
  | `(tactic| walk_at "e") => `(tactic| ((with_reducible show WE _ _ (Expr.Call (Expr.Name (Str.ofString "list") _) [Expr.Call (Expr.Name (Str.ofString "zip") _) _ _ _] _ _) _ _ _); refine we_froz 0 (we_listZip (Nice.calm (by assumption)) rfl (by assumption) rfl (by assumption) ?_)))
theorem fn_nth_filling {f : Addr} {fd : FuncData} (b_enum : mg "enumerate" = none) (b_list : mg "list" = none) (b_zip : mg "zip" = none) (d_sz : FD P w K mg base 7 "need_size" 3 TNeedSz) (d_steps : FD P w K mg base 3 "steps_in" 2 TStepsF) (d_cnt : FD P w K mg base 1 "count_in" 2 TCnt) (d_cls : FD P w K mg base 3 "class_by" 2 TClsBy) (Fn : L2.Fun K "nth_filling" "nth_filling" st_nth_filling f fd) :
    FnOk P w K mg base (L2.CX P w) 8 f fd ["book", "places", "size", "index"] (spG K TNthFil) := by
  refine fn_ok Fn sc_nth_filling rfl TNthFil_len ?_
  intro cdv A outer s H E N hr ds M Q X' h
  obtain ⟨d, e, xs, ps, size, k, rfl, hl, hl2, O, k0, k1, hlog, q⟩ := h
  have hp8 := O.pl.2.1
  have hx := O.poss.1.1
  have s1 := O.one
  show WB _ _ _ [some _, some _, some _, some _, none, none, none, none, none, none, none, none, none] _ _
  refine wb_cons ?_
  walk_at "g"
  refine ⟨d, e, xs, ps, size, rfl, hl, hl2, O, ?_⟩
  walk_at "g"
  refine ⟨d, e, xs, ps, rfl, hl, hl2, O.poss.1, O.pl, ?_⟩
  walk_at "g"
  refine iteP (decide_eq_true k0) ?_
  walk_at "g"
  refine ⟨_, stepsF xs ps, size, rfl, .l, by rw [steps_len]; exact hp8, O.steps, by omega, O.bd, ?_⟩
  walk_at "g"
  refine iteQ (by rw [decide_eq_true k1]; rfl) ?_
  walk_at "g"
  refine we_lstC ?_
  walk_at "g"
  intro p
  walk_at "g"
  refine ⟨_, _, rfl, ?_⟩
  refine wb_cons ?_
  refine ws_for N (wi_enum rfl (by assumption) ?_)
  walk_at "g"
  refine ⟨_, _, rfl, hl2.cons, fun i δ' M' => ∃ (x7 x8 x9 x10 x11 x12 : Option D), δ' = [some d, some e, some (.int size), some (.int k), some (.lst ((stepsF xs ps).map D.int)), some (.cel p), some (.int (k % latF xs ps size i)), x7, x8, x9, x10, x11, x12] ∧ M' = (p, .lst ((fillF xs ps size i (k / latF xs ps size i)).map D.int)) :: M, ?_, ?_, ?_, ?_⟩
  · refine ⟨none, none, none, none, none, none, ?_, rfl⟩
    rw [latF_zero, Int.emod_eq_of_lt k0 k1]
    rfl
  · rintro i δ' M' hi ⟨x7, x8, x9, x10, x11, x12, rfl, rfl⟩
    exact hl2.cons
  · rintro j dd δ' M' hd ⟨x7, x8, x9, x10, x11, x12, rfl, rfl⟩
    obtain ⟨z, hz, rfl⟩ := enumD_inv hd
    obtain ⟨y, hy, rfl⟩ : ∃ y, ps[j]? = some y ∧ z = .int y := by
      rw [List.getElem?_map] at hz
      cases e1 : ps[j]? with
      | none => rw [e1] at hz; cases hz
      | some y => rw [e1] at hz; exact ⟨y, rfl, (Option.some.inj hz).symm⟩
    have hj : j < ps.length := (List.getElem?_eq_some_iff.mp hy).1
    have lp := O.opn.lat_pos (j + 1)
    have turn := nth_turn O.opn hj k
    have gd := fillF_good O.opn j (k / latF xs ps size j) (by omega)
    have gl := fillF_len (xs := xs) (ps := ps) (size := size) j (k / latF xs ps size j)
    have log := hlog j hj
    have ey : y = ps.getD j 0 := by rw [List.getD_eq_getElem?_getD, hy]; rfl
    walk_at "g"
    rw [show ((j : Nat) : Int) + 1 = ((j + 1 : Nat) : Int) by omega, cutD_k, ← List.map_drop]
    refine ⟨_, (stepsF xs ps).drop (j + 1), size, rfl, .l, by rw [List.length_drop, steps_len]; omega, fun s hs => O.steps s (List.mem_of_mem_drop hs), by omega, O.bd, ?_⟩
    rw [show cntF ((stepsF xs ps).drop (j + 1)) size = latF xs ps size (j + 1) from rfl]
    walk_at "g"
    all_goals first | exact lp | exact ⟨lp, log⟩ | skip
    refine ⟨_, _, rfl, ?_⟩
    walk_at "g"
    refine ⟨_, _, _, _, rfl, hl2.cons, .c 0 rfl, fun q2 => ?_⟩
    refine ⟨q2, _, rfl, rfl, ?_⟩
    rw [zip_ints]
    refine .inr (.inr ⟨_, _, hl.cons, .l, ?_, ?_⟩)
    · unfold bookD
      rw [List.length_map, List.length_map, List.length_zip, sizeLine_eq]; omega
    rw [show bookD xs ++ bookD (ps.zip (fillF xs ps size j (k / latF xs ps size j))) = bookD (xs ++ ps.zip (fillF xs ps size j (k / latF xs ps size j))) by unfold bookD; rw [List.map_append]]
    walk_at "g"
    rw [ey]
    refine cls_arg O gd gl hj .l ?_
    walk_at "g"
    · refine ⟨by rw [List.length_map, gl, sizeLine_eq]; omega, _, _, _, _, _, _, by rw [turn.2]; rfl, ?_⟩
      rw [turn.1, List.map_append]
      rfl
    · have np := O.opn.n_pos hj
      have sp := O.opn.step_pos hj
      have r := mix_div (k := k) lp np
      rw [← latF_step hj] at r
      rw [r]
      have r0 := Int.emod_nonneg (k / latF xs ps size (j + 1)) (show size / stepF xs ps j ≠ 0 by omega)
      have r1 := Int.emod_lt_of_pos (k / latF xs ps size (j + 1)) np
      have r2 := Int.ediv_le_self (stepF xs ps j) (show 0 ≤ size by omega)
      have bz := O.bd
      refine IntMulOk.of_bits (bits_of (step_bd O.poss.1 O.pl hj) (by decide)) (bits_of (n := 30000) ?_ (by decide))
      omega
  · rintro δ' M' ⟨x7, x8, x9, x10, x11, x12, rfl, rfl⟩
    rw [enumD_len, List.length_map, latF_end, Int.ediv_one]
    walk_at "g"
    exact q p []
end
/-! FiH -/
set_option exponentiation.threshold 100000
theorem zip_intsT (ps vs : List Int) (i : Nat) : zipD ((ps.take i).map D.int) (vs.map D.int) = bookD (ps.zip (vs.take i)) := by
  rw [zip_ints, takeZip, zipTake]
def TIdxIn : TSp := fun ds M Q _ => ∃ (d e g v : D) (xs : List (Int × Int)) (ps vs : List Int) (size : Int), ds = [d, e, g, .int size, v] ∧ LV M d (bookD xs) ∧ LV M e (ps.map D.int) ∧ LV M g ((stepsF xs ps).map D.int) ∧ LV M v (vs.map D.int) ∧ SzOk xs ps size ∧ Good xs ps size vs ∧ vs.length = ps.length ∧ Q (.int (idxTo xs ps size vs ps.length)) M
theorem TIdxIn_mono : Mono TIdxIn := fun ds M Q Q' E E' h _ ⟨d, e, g, v, xs, ps, vs, z, h1, h2, h3, h4, h5, h6, h7, h8, h9⟩ => ⟨d, e, g, v, xs, ps, vs, z, h1, h2, h3, h4, h5, h6, h7, h8, h _ _ h9⟩
theorem TIdxIn_len : ∀ ds M Q E, TIdxIn ds M Q E → ds.length = 5 := fun ds M Q E h => by obtain ⟨_, _, _, _, _, _, _, _, rfl, _⟩ := h; rfl
section
variable {P : Program} {w : World} {K : PySem.W.Frag} {mg : Str → Option Value} {base : Heap}
local macro_rules
  | `(tactic| walk_at "ok") => `(tactic| first
  | ((show BlkOk N_index_in (defScope st_index_in) _ _); exact blkOk_by (by decide +kernel)))
  | `(tactic| walk_at "tS") => `(tactic| first
  | ((with_reducible refine gS "found" ?_); refine ws_st 5 ?_)
  | ((with_reducible refine gS "value" ?_); refine ws_st 10 ?_))
  | `(tactic| walk_at "tG") => `(tactic| first
  | ((with_reducible refine gG "number" ?_); refine wg_nm 6 ?_)
  | ((with_reducible refine gG "place" ?_); refine wg_nm 7 ?_)
  | ((with_reducible refine gG "least" ?_); refine wg_nm 8 ?_)
  | ((with_reducible refine gG "step" ?_); refine wg_nm 9 ?_))
  | `(tactic| walk_at "eWECall") => `(tactic| first
  | ((with_reducible show WE _ _ (Expr.Call (Expr.Name _ _) _ _ _) _ _ _); walk_at "c")
  | ((with_reducible refine gC "list" ?_); refine we_list rfl (by assumption) ?_))
  | `(tactic| walk_at "n") => `(tactic| first
  | ((with_reducible refine gN "number" ?_); refine we_nm 6 rfl rfl ?_)
  | ((with_reducible refine gN "value" ?_); refine we_nm 10 rfl rfl ?_)
  | ((with_reducible refine gN "places" ?_); refine we_nm 1 rfl rfl ?_)
  | ((with_reducible refine gN "size" ?_); refine we_nm 3 rfl rfl ?_)
  | ((with_reducible refine gN "values" ?_); refine we_nm 4 rfl rfl ?_)
  | ((with_reducible refine gN "found" ?_); refine we_nm 5 rfl rfl ?_)
  | ((with_reducible refine gN "least" ?_); refine we_nm 8 rfl rfl ?_)
  | ((with_reducible refine gN "step" ?_); refine we_nm 9 rfl rfl ?_)
  | ((with_reducible refine gN "book" ?_); refine we_nm 0 rfl rfl ?_)
  | ((with_reducible refine gN "steps" ?_); refine we_nm 2 rfl rfl ?_)
  | ((with_reducible refine gN "place" ?_); refine we_nm 7 rfl rfl ?_)
  | ((with_reducible show WE _ _ (Expr.Name "list" _) _ _ _); refine we_bltn (v := .ty "list") rfl (by assumption) (by decide +kernel) rfl ?_))
  | `(tactic| walk_at "t") => `(tactic| first
  | ((with_reducible show WS _ _ (Stmt.Assign [Expr.Name _ _] _ _) _ _ _); walk_at "tS")
  | ((with_reducible show WG _ _ (Expr.Name _ _) _ _ _ _); walk_at "tG")
  | ((with_reducible show WS _ _ (Stmt.Assign [Expr.Tuple _ _ _] _ _) _ _ _); refine ws_asg ?_))
  | `(tactic| walk_at "c") => `(tactic| first
  | ((with_reducible refine gCK "class_by" ?_); refine we_cl "class_by" ?_))
  | `(tactic| walk_at "e") => `(tactic| ((with_reducible show WE _ _ (Expr.Call (Expr.Name (Str.ofString "list") _) [Expr.Call (Expr.Name (Str.ofString "zip") _) _ _ _] _ _) _ _ _); refine we_froz 0 (we_listZip (Nice.calm (by assumption)) rfl (by assumption) rfl (by assumption) ?_)))
theorem fn_index_in {f : Addr} {fd : FuncData} (b_enum : mg "enumerate" = none) (b_list : mg "list" = none) (b_zip : mg "zip" = none) (d_cls : FD P w K mg base 3 "class_by" 2 TClsBy) (Fn : L2.Fun K "index_in" "index_in" st_index_in f fd) :
    FnOk P w K mg base (L2.CX P w) 4 f fd ["book", "places", "steps", "size", "values"] (spG K TIdxIn) := by
  refine fn_ok Fn sc_index_in rfl TIdxIn_len ?_
  intro cdv A outer s H E N hr ds M Q X' h
  obtain ⟨d, e, g, v, xs, ps, vs, size, rfl, hl, hl2, hl3, hl4, O, G, hv, q⟩ := h
  have hp8 := O.pl.2.1
  have hx := O.poss.1.1
  have s1 := O.one
  have bz := O.bd
  have sb : size.natAbs ≤ 2 ^ 30000 := by omega
  show WB _ _ _ [some _, some _, some _, some _, some _, none, none, none, none, none, none] _ _
  refine wb_cons ?_
  walk_at "g"
  refine ws_for N (wi_enum rfl (by assumption) ?_)
  walk_at "g"
  refine ⟨_, _, rfl, hl2, fun i δ' M' => ∃ (x6 x7 x8 x9 x10 : Option D), δ' = [some d, some e, some g, some (.int size), some v, some (.int (idxTo xs ps size vs i)), x6, x7, x8, x9, x10] ∧ M' = M, ?_, ?_, ?_, ?_⟩
  · exact ⟨none, none, none, none, none, rfl, rfl⟩
  · rintro i δ' M' hi ⟨x6, x7, x8, x9, x10, rfl, rfl⟩
    exact hl2
  · rintro j dd δ' M' hd ⟨x6, x7, x8, x9, x10, rfl, rfl⟩
    obtain ⟨z, hz, rfl⟩ := enumD_inv hd
    obtain ⟨y, hy, rfl⟩ : ∃ y, ps[j]? = some y ∧ z = .int y := by
      rw [List.getElem?_map] at hz
      cases e1 : ps[j]? with
      | none => rw [e1] at hz; cases hz
      | some y => rw [e1] at hz; exact ⟨y, rfl, (Option.some.inj hz).symm⟩
    have hj : j < ps.length := (List.getElem?_eq_some_iff.mp hy).1
    have ey : y = ps.getD j 0 := by rw [List.getD_eq_getElem?_getD, hy]; rfl
    have gt := G.take j
    have tl : (vs.take j).length = j := by rw [List.length_take]; omega
    obtain ⟨r, ⟨r0, r1⟩, er⟩ := G.digit O.opn (show j < vs.length by omega)
    obtain ⟨i0, i1⟩ := G.idx_rng O.opn sb j (by omega)
    have vr := G.rng (vs.getD j 0) (by rw [List.getD_eq_getElem?_getD, List.getElem?_eq_getElem (show j < vs.length by omega)]; exact List.getElem_mem _)
    have gv : (vs.map D.int)[j]? = some (.int (vs.getD j 0)) := by rw [List.getElem?_map, List.getD_eq_getElem?_getD, List.getElem?_eq_getElem (show j < vs.length by omega)]; rfl
    have gs : ((stepsF xs ps).map D.int)[j]? = some (.int (stepF xs ps j)) := by
      rw [List.getElem?_map, List.getElem?_eq_getElem (show j < (stepsF xs ps).length by rw [steps_len]; exact hj), steps_get]; rfl
    have sp := O.opn.step_pos hj
    have sbd := step_bd O.poss.1 O.pl hj
    walk_at "g"
    refine .inl ⟨_, hl2, ?_⟩
    rw [cutD_0, ← List.map_take]
    walk_at "g"
    refine ⟨_, _, _, _, rfl, .l, hl4, fun q2 => ?_⟩
    refine ⟨q2, _, rfl, rfl, ?_⟩
    rw [zip_intsT]
    refine .inr (.inr ⟨_, _, hl, .l, ?_, ?_⟩)
    · unfold bookD
      rw [List.length_map, List.length_map, List.length_zip, sizeLine_eq]; omega
    rw [show bookD xs ++ bookD (ps.zip (vs.take j)) = bookD (xs ++ ps.zip (vs.take j)) by unfold bookD; rw [List.map_append]]
    walk_at "g"
    rw [ey]
    refine cls_arg O gt tl hj .l ?_
    walk_at "g"
    refine Sq.ix (.inl ⟨rfl, hl4⟩) (atI_nat gv) ?_
    walk_at "g"
    refine iteP (decide_eq_true vr.1) ?_
    walk_at "g"
    refine iteQ (by rw [decide_eq_true vr.2]; rfl) ?_
    have ed : (vs.getD j 0 - leastF (xs ++ ps.zip (vs.take j)) (ps.getD j 0)) % stepF xs ps j = 0 := by
      rw [er, show ∀ a b : Int, a + b - a = b by intros; omega, Int.mul_emod_right]
    walk_at "g"
    rotate_left 1
    · exact sp
    refine iteQ (by rw [ed]; rfl) ?_
    walk_at "g"
    refine Sq.ix (.inl ⟨rfl, hl3⟩) (atI_nat gs) ?_
    have lgs : (stepF xs ps j).natAbs.log2 < 9000 := lg sbd (by decide)
    have nl := Int.ediv_le_self (stepF xs ps j) (show 0 ≤ size by omega)
    have nn := O.opn.n_pos hj
    walk_at "g"
    all_goals first
      | exact ⟨sp, lgs⟩
      | exact IntMulOk.of_bits (bits_of (n := 30000 * j) (by omega) (by omega)) (bits_of (n := 30000) (by omega) (by decide))
      | exact ⟨_, _, _, _, _, rfl, rfl⟩
  · rintro δ' M' ⟨x6, x7, x8, x9, x10, rfl, rfl⟩
    rw [enumD_len, List.length_map]
    walk_at "g"
    exact q
end
/-! FiI -/
set_option exponentiation.threshold 100000
def TFilIdx : TSp := fun ds M Q _ => ∃ (d e v : D) (xs : List (Int × Int)) (ps vs : List Int) (size : Int), ds = [d, e, .int size, v] ∧ LV M d (bookD xs) ∧ LV M e (ps.map D.int) ∧ LV M v (vs.map D.int) ∧ SzOk xs ps size ∧ Good xs ps size vs ∧ vs.length = ps.length ∧ Q (.int (idxTo xs ps size vs ps.length)) M
theorem TFilIdx_mono : Mono TFilIdx := fun ds M Q Q' E E' h _ ⟨d, e, v, xs, ps, vs, z, h1, h2, h3, h5, h6, h7, h8, h9⟩ => ⟨d, e, v, xs, ps, vs, z, h1, h2, h3, h5, h6, h7, h8, h _ _ h9⟩
theorem TFilIdx_len : ∀ ds M Q E, TFilIdx ds M Q E → ds.length = 4 := fun ds M Q E h => by obtain ⟨_, _, _, _, _, _, _, rfl, _⟩ := h; rfl
section
variable {P : Program} {w : World} {K : PySem.W.Frag} {mg : Str → Option Value} {base : Heap}
local macro_rules
  | `(tactic| walk_at "ok") => `(tactic| first
  | ((show BlkOk N_filling_index (defScope st_filling_index) _ _); exact blkOk_by (by decide +kernel)))
  | `(tactic| walk_at "tS") => `(tactic| first
  | ((with_reducible refine gS "is_list" ?_); refine ws_st 4 ?_)
  | ((with_reducible refine gS "found" ?_); refine ws_st 5 ?_))
  | `(tactic| walk_at "tG") => `(tactic| first
  | ((with_reducible refine gG "value" ?_); refine wg_nm 6 ?_))
  | `(tactic| walk_at "eWECall") => `(tactic| first
  | ((with_reducible show WE _ _ (Expr.Call (Expr.Name _ _) _ _ _) _ _ _); walk_at "c")
  | ((with_reducible refine gC "isinstance" ?_); refine we_isi rfl (by assumption) ?_)
  | ((with_reducible refine gC "len" ?_); refine we_len rfl (by assumption) ?_)
  | ((with_reducible refine gC "all" ?_); refine we_all rfl rfl (by assumption) ?_))
  | `(tactic| walk_at "n") => `(tactic| first
  | ((with_reducible refine gN "places" ?_); refine we_nm 1 rfl rfl ?_)
  | ((with_reducible refine gN "values" ?_); refine we_nm 3 rfl rfl ?_)
  | ((with_reducible refine gN "book" ?_); refine we_nm 0 rfl rfl ?_)
  | ((with_reducible refine gN "size" ?_); refine we_nm 2 rfl rfl ?_)
  | ((with_reducible refine gN "found" ?_); refine we_nm 5 rfl rfl ?_)
  | ((with_reducible refine gN "is_list" ?_); refine we_nm 4 rfl rfl ?_)
  | ((with_reducible refine gN "value" ?_); refine we_nm 6 rfl rfl ?_)
  | ((with_reducible show WE _ _ (Expr.Name "list" _) _ _ _); refine we_bltn (v := .ty "list") rfl (by assumption) (by decide +kernel) rfl ?_))
  | `(tactic| walk_at "t") => `(tactic| first
  | ((with_reducible show WS _ _ (Stmt.Assign [Expr.Name _ _] _ _) _ _ _); walk_at "tS")
  | ((with_reducible show WG _ _ (Expr.Name _ _) _ _ _ _); walk_at "tG")
  | ((with_reducible show WS _ _ (Stmt.Assign [Expr.Tuple _ _ _] _ _) _ _ _); refine ws_asg ?_))
  | `(tactic| walk_at "c") => `(tactic| first
  | ((with_reducible refine gCK "need_size" ?_); refine we_cl "need_size" ?_)
  | ((with_reducible refine gCK "index_in" ?_); refine we_cl "index_in" ?_)
  | ((with_reducible refine gCK "steps_in" ?_); refine we_cl "steps_in" ?_)
  | ((with_reducible refine gCK "is_integer" ?_); refine we_cl "is_integer" ?_))
  | `(tactic| walk_at "tg") => `(tactic| first
  | exact Tg.one (i := 6) rfl rfl)
theorem fn_filling_index {f : Addr} {fd : FuncData} (b_isi : mg "isinstance" = none) (b_len : mg "len" = none) (b_list : mg "list" = none) (b_all : mg "all" = none) (d_int : FD P w K mg base 1 "is_integer" 1 TInt1) (d_sz : FD P w K mg base 7 "need_size" 3 TNeedSz) (d_steps : FD P w K mg base 3 "steps_in" 2 TStepsF) (d_idx : FD P w K mg base 4 "index_in" 5 TIdxIn) (Fn : L2.Fun K "filling_index" "filling_index" st_filling_index f fd) :
    FnOk P w K mg base (L2.CX P w) 8 f fd ["book", "places", "size", "values"] (spG K TFilIdx) := by
  refine fn_ok Fn sc_filling_index rfl TFilIdx_len ?_
  intro cdv A outer s H E N hr ds M Q X' h
  obtain ⟨d, e, v, xs, ps, vs, size, rfl, hl, hl2, hl4, O, G, hv, q⟩ := h
  have hp8 := O.pl.2.1
  show WB _ _ _ [some _, some _, some _, some _, none, none, none] _ _
  refine wb_cons ?_
  walk_at "g"
  refine ⟨d, e, xs, ps, size, rfl, hl, hl2, O, ?_⟩
  walk_at "g"
  refine isi1 hl4.ty (by decide) (b := true) (by decide) ?_
  walk_at "g"
  refine Sq.len (.inl ⟨rfl, hl4⟩) ?_
  walk_at "g"
  refine Sq.len (.inl ⟨rfl, hl2⟩) ?_
  walk_at "g"
  have lv : (vs.map D.int).length = vs.length := List.length_map ..
  have lp : (ps.map D.int).length = ps.length := List.length_map ..
  refine iteQ (by rw [decide_eq_true (show (((vs.map D.int).length : Nat) : Int) = (((ps.map D.int).length : Nat) : Int) by rw [lv, lp, hv])]; rfl) ?_
  walk_at "g"
  refine we_froz 0 (we_lcM (fun _ => .bl true) N (by walk_at "tg") (by walk_at "ok") (wi_list ?_))
  walk_at "g"
  refine ⟨_, hl4, by rw [lv, sizeLine_eq]; omega, fun _ _ => hl4.cons, ?_, ?_⟩
  · intro j d' acc p hd
    obtain ⟨y, hy, rfl⟩ := List.mem_map.mp (List.mem_of_getElem? hd)
    refine ⟨_, rfl, fun B => ?_⟩
    walk_at "g"
    exact ⟨y, rfl, rfl, rfl⟩
  · intro p
    refine ⟨p, _, rfl, rfl, ?_⟩
    walk_at "g"
    refine ⟨_, List.replicate vs.length true, rfl, ?_, ?_⟩
    · rw [show (List.replicate vs.length true).map D.bl = (vs.map D.int).map fun _ => D.bl true by rw [List.map_map, List.map_replicate]; exact (List.map_const' ..).symm]
      exact .l
    · rw [show (List.replicate vs.length true).all id = true by simp]
      walk_at "g"
      refine ⟨d, e, xs, ps, rfl, hl, hl2, O.poss.1, O.pl, ?_⟩
      walk_at "g"
      refine ⟨d, e, _, v, xs, ps, vs, size, rfl, hl, hl2, .l, hl4, O, G, hv, ?_⟩
      walk_at "g"
      exact q
end
/-! ErA -/
set_option exponentiation.threshold 100000
def itAt (xs : List (Int × Int)) (i : Nat) : Int × Int := xs.getD i (0, 0)
theorem itAt_get {xs : List (Int × Int)} {i : Nat} (h : i < xs.length) : xs[i]? = some (itAt xs i) := by
  unfold itAt
  rw [List.getD_eq_getElem?_getD, List.getElem?_eq_getElem h]; rfl
def unfit (xs : List (Int × Int)) (i j : Nat) : Bool := !decide (Fit (itAt xs i) (itAt xs j))
def confRow (xs : List (Int × Int)) (i : Nat) : List (Nat × Nat) := (((List.range (xs.length - (i + 1))).map fun k => i + 1 + k).filter (unfit xs i)).map fun j => (i, j)
def confTo (xs : List (Int × Int)) : Nat → List (Nat × Nat)
  | 0 => []
  | n + 1 => confTo xs n ++ confRow xs n
def confs (xs : List (Int × Int)) : List (Nat × Nat) := confTo xs xs.length
def ij (p : Nat × Nat) : Int × Int := (p.1, p.2)
/-- as items -/
def confD (l : List (Nat × Nat)) : List D := bookD (l.map ij)
theorem confD_app (a b : List (Nat × Nat)) : confD (a ++ b) = confD a ++ confD b := by unfold confD bookD; rw [List.map_append, List.map_append]
theorem confRow_mem {xs : List (Int × Int)} {i a b : Nat} : (a, b) ∈ confRow xs i ↔ a = i ∧ i < b ∧ b < xs.length ∧ unfit xs i b = true := by
  unfold confRow
  constructor
  · intro h
    obtain ⟨j, hj, e⟩ := List.mem_map.mp h
    obtain ⟨h1, h2⟩ := List.mem_filter.mp hj
    obtain ⟨k, hk, rfl⟩ := List.mem_map.mp h1
    have := List.mem_range.mp hk
    cases e
    exact ⟨rfl, by omega, by omega, h2⟩
  · rintro ⟨rfl, h1, h2, h3⟩
    refine List.mem_map.mpr ⟨b, List.mem_filter.mpr ⟨List.mem_map.mpr ⟨b - (a + 1), List.mem_range.mpr (by omega), by omega⟩, h3⟩, rfl⟩
theorem confTo_mem {xs : List (Int × Int)} {a b : Nat} : ∀ n, (a, b) ∈ confTo xs n ↔ a < n ∧ a < b ∧ b < xs.length ∧ unfit xs a b = true
  | 0 => by simp [confTo]
  | n + 1 => by
    show (a, b) ∈ confTo xs n ++ confRow xs n ↔ _
    rw [List.mem_append, confTo_mem n, confRow_mem]
    constructor
    · rintro (⟨h1, h2⟩ | ⟨rfl, h2⟩)
      · exact ⟨by omega, h2⟩
      · exact ⟨by omega, h2⟩
    · rintro ⟨h1, h2⟩
      by_cases e : a = n
      · subst e; exact .inr ⟨rfl, h2⟩
      · exact .inl ⟨by omega, h2⟩
theorem confs_mem {xs : List (Int × Int)} {a b : Nat} : (a, b) ∈ confs xs ↔ a < b ∧ b < xs.length ∧ unfit xs a b = true := by
  unfold confs
  rw [confTo_mem]
  exact ⟨fun h => h.2, fun h => ⟨by omega, h⟩⟩
theorem Fit.symm' {x y : Int × Int} (h : Fit x y) : Fit y x := by
  have := Int.dvd_neg.mpr (Int.neg_dvd.mpr h)
  rwa [Int.neg_sub, Int.neg_sub] at this
theorem Fit.refl' (x : Int × Int) : Fit x x := by
  show (x.1 - x.1) ∣ (x.2 - x.2)
  rw [Int.sub_self, Int.sub_self]; exact Int.dvd_refl _
theorem confs_nil {xs : List (Int × Int)} : confs xs = [] ↔ ∀ x ∈ xs, ∀ y ∈ xs, Fit x y := by
  constructor
  · intro h x hx y hy
    obtain ⟨i, hi⟩ := List.getElem?_of_mem hx
    obtain ⟨j, hj⟩ := List.getElem?_of_mem hy
    have li := (List.getElem?_eq_some_iff.mp hi).1
    have lj := (List.getElem?_eq_some_iff.mp hj).1
    have ei : itAt xs i = x := Option.some.inj ((itAt_get li).symm.trans hi)
    have ej : itAt xs j = y := Option.some.inj ((itAt_get lj).symm.trans hj)
    have key : ∀ a b : Nat, a < b → b < xs.length → Fit (itAt xs a) (itAt xs b) := fun a b hab hb => by
      apply Decidable.byContradiction
      intro hn
      have : (a, b) ∈ confs xs := confs_mem.mpr ⟨hab, hb, by unfold unfit; rw [decide_eq_false hn]; rfl⟩
      rw [h] at this
      cases this
    rcases Nat.lt_trichotomy i j with g | g | g
    · rw [← ei, ← ej]; exact key i j g lj
    · subst g; rw [← ei, ← ej]; exact Fit.refl' _
    · rw [← ei, ← ej]; exact (key j i g li).symm'
  · intro h
    rw [List.eq_nil_iff_forall_not_mem]
    rintro ⟨a, b⟩ hab
    obtain ⟨h1, h2, h3⟩ := confs_mem.mp hab
    unfold unfit at h3
    rw [decide_eq_true (h _ (List.mem_of_getElem? (itAt_get (by omega))) _ (List.mem_of_getElem? (itAt_get h2)))] at h3
    cases h3
theorem confTo_len (xs : List (Int × Int)) : ∀ n, (confTo xs n).length ≤ n * xs.length
  | 0 => by simp [confTo]
  | n + 1 => by
    show (confTo xs n ++ confRow xs n).length ≤ _
    have a := confTo_len xs n
    have b : (confRow xs n).length ≤ xs.length := by
      unfold confRow
      rw [List.length_map]
      refine Nat.le_trans (List.length_filter_le ..) ?_
      rw [List.length_map, List.length_range]
      omega
    rw [List.length_append, Nat.add_mul, Nat.one_mul]
    omega
def TConfs : TSp := fun ds M Q _ => ∃ d xs, ds = [d] ∧ LV M d (bookD xs) ∧ xs.length ≤ 60 ∧ ∀ p rest, Q (.cel p) (rest ++ (p, .lst (confD (confs xs))) :: M)
theorem TConfs_mono : Mono TConfs := fun ds M Q Q' E E' h _ ⟨a, b, h1, h2, h3, h4⟩ => ⟨a, b, h1, h2, h3, fun p r => h _ _ (h4 p r)⟩
theorem TConfs_len : ∀ ds M Q E, TConfs ds M Q E → ds.length = 1 := fun ds M Q E h => by obtain ⟨_, _, rfl, _⟩ := h; rfl
def kUn (xs : List (Int × Int)) (i : Nat) : D → Bool
  | .int j => unfit xs i j.toNat
  | _ => false
def fPr (i : Nat) : D → D
  | .int j => .tup [.int (i : Nat), .int j]
  | _ => .non
theorem confRow_D (xs : List (Int × Int)) (i : Nat) : ((rangeD ((i : Int) + 1) (xs.length - (i + 1))).filter (kUn xs i)).map (fPr i) = confD (confRow xs i) := by
  unfold confRow confD bookD rangeD
  rw [List.filter_map, List.filter_map, List.map_map, List.map_map, List.map_map, List.map_map]
  have ef : (kUn xs i ∘ fun k : Nat => D.int ((i : Int) + 1 + (k : Nat))) = (unfit xs i ∘ fun k => i + 1 + k) := by
    funext k
    show unfit xs i ((i : Int) + 1 + (k : Nat)).toNat = unfit xs i (i + 1 + k)
    rw [show ((i : Int) + 1 + (k : Nat)).toNat = i + 1 + k by omega]
  have eg : (fPr i ∘ fun k : Nat => D.int ((i : Int) + 1 + (k : Nat))) = (itemD ∘ ij ∘ (fun j => (i, j)) ∘ fun k => i + 1 + k) := by
    funext k
    show D.tup [.int (i : Nat), .int ((i : Int) + 1 + (k : Nat))] = D.tup [.int ((i : Nat) : Int), .int ((i + 1 + k : Nat) : Int)]
    rw [show ((i : Int) + 1 + (k : Nat)) = ((i + 1 + k : Nat) : Int) by omega]
  rw [ef, eg]
  rfl
section
variable {P : Program} {w : World} {K : PySem.W.Frag} {mg : Str → Option Value} {base : Heap}
local macro_rules
  | `(tactic| walk_at "ok") => `(tactic| first
  | ((show BlkOk N_conflicts_in (defScope st_conflicts_in) _ _); exact blkOk_by (by decide +kernel)))
  | `(tactic| walk_at "tS") => `(tactic| first
  | ((with_reducible refine gS "found" ?_); refine ws_st 1 ?_))
  | `(tactic| walk_at "tG") => `(tactic| first
  | ((with_reducible refine gG "first" ?_); refine wg_nm 2 ?_)
  | ((with_reducible refine gG "one" ?_); refine wg_nm 3 ?_)
  | ((with_reducible refine gG "second" ?_); refine wg_nm 4 ?_))
  | `(tactic| walk_at "eWECall") => `(tactic| first
  | ((with_reducible refine gC "len" ?_); refine we_len rfl (by assumption) ?_)
  | ((with_reducible show WE _ _ (Expr.Call (Expr.Name _ _) _ _ _) _ _ _); walk_at "c"))
  | `(tactic| walk_at "n") => `(tactic| first
  | ((with_reducible refine gN "book" ?_); refine we_nm 0 rfl rfl ?_)
  | ((with_reducible refine gN "found" ?_); refine we_nm 1 rfl rfl ?_)
  | ((with_reducible refine gN "first" ?_); refine we_nm 2 rfl rfl ?_)
  | ((with_reducible refine gN "second" ?_); refine we_nm 4 rfl rfl ?_)
  | ((with_reducible refine gN "one" ?_); refine we_nm 3 rfl rfl ?_))
  | `(tactic| walk_at "t") => `(tactic| first
  | ((with_reducible show WS _ _ (Stmt.Assign [Expr.Name _ _] _ _) _ _ _); walk_at "tS")
  | ((with_reducible show WG _ _ (Expr.Name _ _) _ _ _ _); walk_at "tG")
  | ((with_reducible show WS _ _ (Stmt.Assign [Expr.Tuple _ _ _] _ _) _ _ _); refine ws_asg ?_))
  | `(tactic| walk_at "c") => `(tactic| first
  | ((with_reducible refine gCK "do_fit" ?_); refine we_cl "do_fit" ?_))
  | `(tactic| walk_at "tg") => `(tactic| first
  | exact Tg.one (i := 4) rfl rfl)
theorem fn_conflicts_inG {f : Addr} {fd : FuncData} (b_enum : mg "enumerate" = none) (b_range : mg "range" = none) (b_len : mg "len" = none) (d_fit : FD P w K mg base 2 "do_fit" 2 TFit) (Fn : L2.Fun K "conflicts_in" "conflicts_in" st_conflicts_in f fd) :
    FnOk P w K mg base (L2.CX P w) 3 f fd ["book"] (spG K TConfs) := by
  refine fn_ok Fn sc_conflicts_in rfl TConfs_len ?_
  intro cdv A outer s H E N hr ds M Q X' h
  obtain ⟨d, xs, rfl, hl, hb, q⟩ := h
  show WB _ _ _ [some _, none, none, none, none] _ _
  have hbl : (bookD xs).length = xs.length := by unfold bookD; rw [List.length_map]
  refine wb_cons ?_
  walk_at "t"
  refine we_lstC ?_
  walk_at "g"
  intro p
  walk_at "g"
  refine ws_for N (wi_enum rfl (by assumption) ?_)
  walk_at "g"
  refine ⟨_, bookD xs, rfl, hl.cons, fun j δ' M' => ∃ (x2 x3 x4 : Option D) (rest : Cells), δ' = [some d, some (.cel p), x2, x3, x4] ∧ M' = rest ++ (p, .lst (confD (confTo xs j))) :: M, ?_, ?_, ?_, ?_⟩
  · exact ⟨none, none, none, [], rfl, rfl⟩
  · rintro j δ' M' _ ⟨x2, x3, x4, rest, rfl, rfl⟩
    exact hl.cons.app rest
  · rintro j d' δ' M' hd ⟨x2, x3, x4, rest, rfl, rfl⟩
    obtain ⟨u, hu, rfl⟩ := enumD_inv hd
    unfold bookD at hu
    rw [List.getElem?_map] at hu
    cases e1 : xs[j]? with
    | none => rw [e1] at hu; cases hu
    | some x =>
      obtain rfl : u = itemD x := by rw [e1] at hu; exact (Option.some.inj hu).symm
      have hj := (List.getElem?_eq_some_iff.mp e1).1
      have ex : itAt xs j = x := Option.some.inj ((itAt_get hj).symm.trans e1)
      walk_at "s"
      walk_at "s"
      walk_at "t"
      walk_at "s"
      walk_at "t"
      walk_at "s"
      refine wb_drop (List.sublist_append_right _ _) ?_
      walk_at "g"
      refine we_extend ?_
      walk_at "g"
      refine we_lcF (kUn xs j) (fPr j) N (by walk_at "tg") (by walk_at "ok") (wi_range2 rfl (by assumption) ?_)
      walk_at "g"
      refine Sq.len (.inl ⟨rfl, hl.cons⟩) ?_
      walk_at "g"
      refine ⟨_, _, rfl, ⟨by omega, by omega, by omega, by omega⟩, ?_, fun _ _ => trivial, ?_, ?_⟩
      · rw [rangeD_len, hbl, sizeLine_eq]; omega
      · intro i d2 acc p' hd2
        obtain ⟨hi, rfl⟩ := rangeD_inv hd2
        rw [hbl] at hi
        have hi2 : j + 1 + i < xs.length := by omega
        have ey : (bookD xs)[j + 1 + i]? = some (itemD (itAt xs (j + 1 + i))) := by unfold bookD; rw [List.getElem?_map, itAt_get hi2]; rfl
        have en : (j : Int) + 1 + (i : Nat) = ((j + 1 + i : Nat) : Int) := by omega
        refine ⟨_, rfl, fun B => ?_⟩
        walk_at "g"
        refine Sq.ix (.inl ⟨rfl, hl.cons.cons⟩) (z := itemD (itAt xs (j + 1 + i))) (by rw [en]; exact atI_nat ey) ?_
        walk_at "g"
        refine ⟨x, itAt xs (j + 1 + i), rfl, ?_⟩
        walk_at "g"
        have eu : (!decide (Fit x (itAt xs (j + 1 + i)))) = kUn xs j (.int ((j : Int) + 1 + (i : Nat))) := by
          show _ = unfit xs j ((j : Int) + 1 + (i : Nat)).toNat
          rw [en]
          show _ = unfit xs j (j + 1 + i)
          unfold unfit
          rw [ex]
        refine ⟨rfl, eu, fun _ B => ?_⟩
        walk_at "g"
        exact ⟨rfl, rfl⟩
      · intro p'
        rw [hbl, show ((xs.length : Int) - ((j : Int) + 1)).toNat = xs.length - (j + 1) by omega, confRow_D]
        walk_at "g"
        have l1 := confTo_len xs j
        have l2 := confTo_len xs (j + 1)
        have l3 : (j + 1) * xs.length ≤ 60 * 60 := Nat.mul_le_mul (by omega) hb
        have l4 : (confTo xs (j + 1)).length = (confTo xs j).length + (confRow xs j).length := List.length_append
        have dl : ∀ l : List (Nat × Nat), (confD l).length = l.length := fun l => by unfold confD bookD; rw [List.length_map, List.length_map]
        refine ⟨p', 1, confD (confTo xs j), 0, confD (confRow xs j), rfl, rfl, by simp, ?_, ?_⟩
        · rw [dl, dl, sizeLine_eq]; omega
        walk_at "g"
        refine ⟨_, _, _, [(p', .lst (confD (confRow xs j)))], rfl, ?_⟩
        show _ = _ :: (p, Cell.lst (confD (confTo xs j ++ confRow xs j))) :: M
        rw [confD_app]
        rfl
  · rintro δ' M' ⟨x2, x3, x4, rest, rfl, rfl⟩
    rw [enumD_len, hbl]
    walk_at "g"
    exact q p rest
end
/-! ErB -/
set_option exponentiation.threshold 100000
/-- the least pair, or None -/
def leastD : List (Nat × Nat) → D
  | [] => .non
  | p :: _ => .tup [.int (p.1 : Nat), .int (p.2 : Nat)]
def TConfl : TSp := fun ds M Q _ => ∃ d xs, ds = [d] ∧ LV M d (bookD xs) ∧ xs.length ≤ 60 ∧ Q (leastD (confs xs)) M
theorem TConfl_mono : Mono TConfl := fun ds M Q Q' E E' h _ ⟨a, b, h1, h2, h3, h4⟩ => ⟨a, b, h1, h2, h3, h _ _ h4⟩
theorem TConfl_len : ∀ ds M Q E, TConfl ds M Q E → ds.length = 1 := fun ds M Q E h => by obtain ⟨_, _, rfl, _⟩ := h; rfl
section
variable {P : Program} {w : World} {K : PySem.W.Frag} {mg : Str → Option Value} {base : Heap}
local macro_rules
  | `(tactic| walk_at "ok") => `(tactic| first
  | ((show BlkOk N_conflict_in (defScope st_conflict_in) _ _); exact blkOk_by (by decide +kernel)))
  | `(tactic| walk_at "tS") => `(tactic| first
  | ((with_reducible refine gS "found" ?_); refine ws_st 1 ?_))
  | `(tactic| walk_at "eWECall") => `(tactic| first
  | ((with_reducible show WE _ _ (Expr.Call (Expr.Name _ _) _ _ _) _ _ _); walk_at "c"))
  | `(tactic| walk_at "n") => `(tactic| first
  | ((with_reducible refine gN "found" ?_); refine we_nm 1 rfl rfl ?_)
  | ((with_reducible refine gN "book" ?_); refine we_nm 0 rfl rfl ?_))
  | `(tactic| walk_at "t") => `(tactic| first
  | ((with_reducible show WS _ _ (Stmt.Assign [Expr.Name _ _] _ _) _ _ _); walk_at "tS")
  | ((with_reducible show WS _ _ (Stmt.Assign [Expr.Tuple _ _ _] _ _) _ _ _); refine ws_asg ?_))
  | `(tactic| walk_at "c") => `(tactic| first
  | ((with_reducible refine gCK "conflicts_in" ?_); refine we_cl "conflicts_in" ?_))
theorem fn_conflict_inG {f : Addr} {fd : FuncData} (d_conf : FD P w K mg base 3 "conflicts_in" 1 TConfs) (Fn : L2.Fun K "conflict_in" "conflict_in" st_conflict_in f fd) :
    FnOk P w K mg base (L2.CX P w) 4 f fd ["book"] (spG K TConfl) := by
  refine fn_ok Fn sc_conflict_in rfl TConfl_len ?_
  intro cdv A outer s H E N hr ds M Q X' h
  obtain ⟨d, xs, rfl, hl, hb, q⟩ := h
  show WB _ _ _ [some _, none] _ _
  refine wb_cons ?_
  walk_at "g"
  refine ⟨d, xs, rfl, hl, hb, fun p rest => ?_⟩
  refine wb_drop (List.sublist_append_right _ _) ?_
  refine wb_one (ws_ret (WE.few ?_))
  generalize confs xs = cs at *
  walk_at "g"
  refine req_dN (p := .list (pys (confD cs))) (q := .list []) (.cl (ds := confD cs) 0 rfl (okDs_book _)) (.fz rfl) (shaped_book _) rfl ?_
  cases cs with
  | nil =>
    refine ⟨_, rfl, iteQ rfl ?_⟩
    walk_at "g"
    exact ⟨M, List.sublist_cons_self _ _, q⟩
  | cons c cs =>
    refine ⟨_, rfl, iteP rfl ?_⟩
    walk_at "g"
    refine ⟨itemD (ij c), atI_nat (show (confD (c :: cs))[0]? = some (itemD (ij c)) from rfl), ?_⟩
    exact ⟨M, List.sublist_cons_self _ _, q⟩
end
def TConfOf : TSp := fun ds M Q _ => ∃ d xs, ds = [d] ∧ LV M d (bookD xs) ∧ BookOk xs ∧ Q (leastD (confs xs)) M
theorem TConfOf_mono : Mono TConfOf := fun ds M Q Q' E E' h _ ⟨a, b, h1, h2, h3, h4⟩ => ⟨a, b, h1, h2, h3, h _ _ h4⟩
theorem TConfOf_len : ∀ ds M Q E, TConfOf ds M Q E → ds.length = 1 := fun ds M Q E h => by obtain ⟨_, _, rfl, _⟩ := h; rfl
section
variable {P : Program} {w : World} {K : PySem.W.Frag} {mg : Str → Option Value} {base : Heap}
local macro_rules
  | `(tactic| walk_at "ok") => `(tactic| first
  | ((show BlkOk N_conflict_of (defScope st_conflict_of) _ _); exact blkOk_by (by decide +kernel)))
  | `(tactic| walk_at "eWECall") => `(tactic| first
  | ((with_reducible show WE _ _ (Expr.Call (Expr.Name _ _) _ _ _) _ _ _); walk_at "c"))
  | `(tactic| walk_at "n") => `(tactic| first
  | ((with_reducible refine gN "book" ?_); refine we_nm 0 rfl rfl ?_))
  | `(tactic| walk_at "t") => `(tactic| first
  | ((with_reducible show WS _ _ (Stmt.Assign [Expr.Tuple _ _ _] _ _) _ _ _); refine ws_asg ?_))
  | `(tactic| walk_at "c") => `(tactic| first
  | ((with_reducible refine gCK "need_book" ?_); refine we_cl "need_book" ?_)
  | ((with_reducible refine gCK "conflict_in" ?_); refine we_cl "conflict_in" ?_))
theorem fn_conflict_of {f : Addr} {fd : FuncData} (d_book : FD P w K mg base 5 "need_book" 1 TNeedBook) (d_conf : FD P w K mg base 4 "conflict_in" 1 TConfl) (Fn : L2.Fun K "conflict_of" "conflict_of" st_conflict_of f fd) :
    FnOk P w K mg base (L2.CX P w) 6 f fd ["book"] (spG K TConfOf) := by
  refine fn_ok Fn sc_conflict_of rfl TConfOf_len ?_
  intro cdv A outer s H E N hr ds M Q X' h
  obtain ⟨d, xs, rfl, hl, hb, q⟩ := h
  have hlen := hb.1
  show WB _ _ _ [some _] _ _
  refine wb_cons ?_
  walk_at "g"
  refine ⟨d, xs, rfl, hl, hb, ?_⟩
  walk_at "g"
  exact ⟨d, xs, rfl, hl, by omega, q⟩
end
/-! SsA -/
set_option exponentiation.threshold 100000
theorem oth_ne {xs : List (Int × Int)} {ps : List Int} (nd : (ps ++ xs.map Prod.fst).Nodup) {i : Nat} (hi : i < ps.length) : ∀ o ∈ othF xs ps i, o ≠ ps.getD i 0 := fun o ho e => by
  have nd := List.nodup_append.mp nd
  have gi : ps.getD i 0 = ps[i] := by rw [List.getD_eq_getElem?_getD, List.getElem?_eq_getElem hi]; rfl
  rw [gi] at e
  rcases List.mem_append.mp ho with h | h
  · exact nd.2.2 _ (List.getElem_mem hi) o h e.symm
  · obtain ⟨j, hj, rfl⟩ := List.mem_iff_getElem.mp h
    rw [List.length_take] at hj
    rw [List.getElem_take] at e
    exact (List.pairwise_iff_getElem.mp nd.1) j i (by omega) hi (by omega) e
theorem size_pos {xs : List (Int × Int)} {ps : List Int} (nd : (ps ++ xs.map Prod.fst).Nodup) : 0 < sizeF xs ps := lcmF_pos fun f hf => by
  obtain ⟨i, hi, rfl⟩ := steps_mem hf
  have : 0 < stepF xs ps i := lcmF_pos fun g hg => by
    obtain ⟨o, ho, rfl⟩ := List.mem_map.mp hg
    have := oth_ne nd hi o ho
    omega
  omega
theorem opn_of {xs : List (Int × Int)} {ps : List Int} (f : Fits xs) (pl : PlOk xs ps) : Opn xs ps (sizeF xs ps) :=
  ⟨f, pl.2.2.2, size_pos pl.2.2.2, fun i hi => (lcmF_dvd (stepsF xs ps) _).mp (Int.dvd_refl _) _ (List.mem_map.mpr ⟨i, List.mem_range.mpr hi, rfl⟩)⟩
theorem zerB_ok {xs : List (Int × Int)} (h : BookOk xs) : BookOk (zerB xs) := ⟨by unfold zerB; rw [List.length_map]; exact h.1, fun x hx => by
  obtain ⟨y, hy, rfl⟩ := List.mem_map.mp hx
  exact ⟨(h.2.1 y hy).1, show (0 : Int).natAbs ≤ 10 ^ 30 by decide⟩, by rw [zerB_fst]; exact h.2.2⟩
theorem zerB_pl {xs : List (Int × Int)} {ps : List Int} (h : PlOk xs ps) : PlOk (zerB xs) ps := ⟨h.1, h.2.1, h.2.2.1, by rw [zerB_fst]; exact h.2.2.2⟩
def fZer : D → D
  | .tup (.int p :: _) => .tup [.int p, .int 0]
  | _ => .non
theorem zer_D (xs : List (Int × Int)) : (bookD xs).map fZer = bookD (zerB xs) := by
  unfold bookD zerB
  rw [List.map_map, List.map_map]
  rfl
theorem step_bdI {xs : List (Int × Int)} {ps : List Int} (hb : BookOk xs) (pl : PlOk xs ps) : ∀ i, i < ps.length → stepF xs ps i ≤ 2 ^ 3264 := fun i hi => by
  have a := step_bd hb pl hi
  have c : ((stepF xs ps i).natAbs : Int) ≤ ((2 ^ 3264 : Nat) : Int) := Int.ofNat_le.mpr a
  rw [Int.natCast_pow] at c
  exact Int.le_trans Int.le_natAbs c
theorem bdN {B : Nat} {v : Int} (h : 0 ≤ v ∧ v ≤ 2 ^ B) : v.natAbs ≤ 2 ^ B := by
  have c : (v.natAbs : Int) ≤ ((2 ^ B : Nat) : Int) := by
    rw [Int.natCast_pow, Int.natAbs_of_nonneg h.1]
    exact h.2
  exact Int.ofNat_le.mp c
noncomputable def linesD (xs : List (Int × Int)) (ps : List Int) : Nat → List D := fun n => (List.range n).map fun k => .lst ((rowF xs ps k).map D.int)
def TVecs : TSp := fun ds M Q _ => ∃ (d e : D) (xs : List (Int × Int)) (ps : List Int), ds = [d, e] ∧ LV M d (bookD xs) ∧ LV M e (ps.map D.int) ∧ PossOk xs ∧ PlOk xs ps ∧ ∀ p, Q (.cel p) ((p, .lst (linesD xs ps ps.length)) :: M)
theorem TVecs_mono : Mono TVecs := fun ds M Q Q' E E' h _ ⟨d, e, xs, ps, h1, h2, h3, h4, h5, h6⟩ => ⟨d, e, xs, ps, h1, h2, h3, h4, h5, fun p => h _ _ (h6 p)⟩
theorem TVecs_len : ∀ ds M Q E, TVecs ds M Q E → ds.length = 2 := fun ds M Q E h => by obtain ⟨_, _, _, _, rfl, _⟩ := h; rfl
section
variable {P : Program} {w : World} {K : PySem.W.Frag} {mg : Str → Option Value} {base : Heap}
local macro_rules
  | `(tactic| walk_at "ok") => `(tactic| first
  | ((show BlkOk N_vectors_in (defScope st_vectors_in) _ _); exact blkOk_by (by decide +kernel)))
  | `(tactic| walk_at "tS") => `(tactic| first
  | ((with_reducible refine gS "row" ?_); refine ws_st 7 ?_))
  | `(tactic| walk_at "tG") => `(tactic| first
  | ((with_reducible refine gG "told" ?_); refine wg_nm 2 ?_)
  | ((with_reducible refine gG "steps" ?_); refine wg_nm 3 ?_)
  | ((with_reducible refine gG "found" ?_); refine wg_nm 4 ?_)
  | ((with_reducible refine gG "first" ?_); refine wg_nm 5 ?_)
  | ((with_reducible refine gG "step" ?_); refine wg_nm 6 ?_)
  | ((with_reducible refine gG "place" ?_); refine wg_nm 8 ?_)
  | ((with_reducible refine gG "value" ?_); refine wg_nm 9 ?_))
  | `(tactic| walk_at "eWECall") => `(tactic| first
  | ((with_reducible show WE _ _ (Expr.Call (Expr.Name _ _) _ _ _) _ _ _); walk_at "c")
  | ((with_reducible show WE _ _ (Expr.Call (Expr.Attribute _ "append" _) _ _ _) _ _ _); refine we_append ?_)
  | ((with_reducible refine gC "list" ?_); refine we_list rfl (by assumption) ?_))
  | `(tactic| walk_at "n") => `(tactic| first
  | ((with_reducible refine gN "places" ?_); refine we_nm 1 rfl rfl ?_)
  | ((with_reducible refine gN "row" ?_); refine we_nm 7 rfl rfl ?_)
  | ((with_reducible refine gN "book" ?_); refine we_nm 0 rfl rfl ?_)
  | ((with_reducible refine gN "found" ?_); refine we_nm 4 rfl rfl ?_)
  | ((with_reducible refine gN "first" ?_); refine we_nm 5 rfl rfl ?_)
  | ((with_reducible refine gN "place" ?_); refine we_nm 8 rfl rfl ?_)
  | ((with_reducible refine gN "told" ?_); refine we_nm 2 rfl rfl ?_)
  | ((with_reducible refine gN "steps" ?_); refine we_nm 3 rfl rfl ?_)
  | ((with_reducible refine gN "step" ?_); refine we_nm 6 rfl rfl ?_)
  | ((with_reducible show WE _ _ (Expr.Name "list" _) _ _ _); refine we_bltn (v := .ty "list") rfl (by assumption) (by decide +kernel) rfl ?_))
  | `(tactic| walk_at "t") => `(tactic| first
  | ((with_reducible show WS _ _ (Stmt.Assign [Expr.Name _ _] _ _) _ _ _); walk_at "tS")
  | ((with_reducible show WG _ _ (Expr.Name _ _) _ _ _ _); walk_at "tG")
  | ((with_reducible show WS _ _ (Stmt.Assign [Expr.Tuple [Expr.Name "told" _, Expr.Name "steps" _, Expr.Name "found" _] _ _] (Expr.Tuple _ _ _) _) _ _ _); first | refine ws_par3 (i := 2) (j := 3) (l := 4) (by assumption) rfl rfl rfl (by decide) (by decide) (by decide) rfl rfl rfl rfl ?_ | refine ws_asg ?_)
  | ((with_reducible show WS _ _ (Stmt.Assign [Expr.Tuple _ _ _] _ _) _ _ _); refine ws_asg ?_))
  | `(tactic| walk_at "c") => `(tactic| first
  | ((with_reducible refine gCK "steps_in" ?_); refine we_cl "steps_in" ?_)
  | ((with_reducible refine gCK "class_by" ?_); refine we_cl "class_by" ?_))
  | `(tactic| walk_at "tg") => `(tactic| first
  | exact Tg.two (i := 8) (j := 9) rfl rfl (by decide) rfl rfl)
  | `(tactic| walk_at "e") => `(tactic| first
  | ((with_reducible show WE _ _ (Expr.BinOp (Expr.BinOp (Expr.List _ _) Operator.Mult _ _) Operator.Add _ _) _ _ _); refine we_addC ?_)
  | ((with_reducible show WE _ _ (Expr.BinOp (Expr.List _ _) Operator.Mult _ _) _ _ _); refine we_mulL (we_lstC ?_)))
local macro_rules | `(tactic| walk_at "e") => `(tactic| ((with_reducible show WE _ _ (Expr.Call (Expr.Name (Str.ofString "list") _) [Expr.Call (Expr.Name (Str.ofString "zip") _) _ _ _] _ _) _ _ _); refine we_froz 0 (we_listZip (Nice.calm (by assumption)) rfl (by assumption) rfl (by assumption) ?_)))
theorem fn_vectors_in {f : Addr} {fd : FuncData} (b_enum : mg "enumerate" = none) (b_list : mg "list" = none) (b_zip : mg "zip" = none) (d_steps : FD P w K mg base 3 "steps_in" 2 TStepsF) (d_cls : FD P w K mg base 3 "class_by" 2 TClsBy) (Fn : L2.Fun K "vectors_in" "vectors_in" st_vectors_in f fd) :
    FnOk P w K mg base (L2.CX P w) 4 f fd ["book", "places"] (spG K TVecs) := by
  refine fn_ok Fn sc_vectors_in rfl TVecs_len ?_
  intro cdv A outer s H E N hr ds M Q X' h
  obtain ⟨d, e, xs, ps, rfl, hl, hl2, hp, pl, q⟩ := h
  have O := opn_of hp.2 pl
  have hx := hp.1.1
  have hp8 := pl.2.1
  show WB _ _ _ [some _, some _, none, none, none, none, none, none, none, none] _ _
  refine wb_cons ?_
  walk_at "t"
  refine wa_cons (we_froz 0 (we_lcM fZer N (by walk_at "tg") (by walk_at "ok") (wi_list ?_)))
  walk_at "g"
  refine ⟨_, hl, by unfold bookD; rw [List.length_map, sizeLine_eq]; omega, fun _ _ => hl.cons, ?_, ?_⟩
  · intro j d' acc p hd
    obtain ⟨y, hy, rfl⟩ := List.mem_map.mp (List.mem_of_getElem? hd)
    refine ⟨_, ⟨_, _, rfl, rfl⟩, fun B => ?_⟩
    walk_at "g"
    exact ⟨rfl, rfl⟩
  intro p1
  refine ⟨p1, _, rfl, rfl, ?_⟩
  rw [zer_D]
  walk_at "g"
  refine ⟨d, e, xs, ps, rfl, hl, hl2, hp.1, pl, ?_⟩
  refine wa_cons (we_lstC ?_)
  walk_at "g"
  intro p
  walk_at "g"
  refine ⟨_, _, _, rfl, ?_⟩
  refine wb_drop (M0 := (p, .lst []) :: M) (List.Sublist.refl _) ?_
  have Bs := step_bdI hp.1 pl
  have B0 : (0 : Int) ≤ 2 ^ 3264 := Int.le_of_lt (Int.pow_pos (by decide))
  refine wb_cons ?_
  refine ws_for N (wi_enum rfl (by assumption) ?_)
  walk_at "g"
  refine ⟨_, (stepsF xs ps).map D.int, rfl, .l, fun i δ' M' => ∃ (x5 x6 x7 x8 : Option D), δ' = [some d, some e, some (.lst (bookD (zerB xs))), some (.lst ((stepsF xs ps).map D.int)), some (.cel p), x5, x6, x7, x8, none] ∧ M' = (p, .lst (linesD xs ps i)) :: M, ?_, fun _ _ _ _ _ => .l, ?_, ?_⟩
  · exact ⟨none, none, none, none, rfl, rfl⟩
  · rintro j dd δ' M' hd ⟨x5, x6, x7, x8, rfl, rfl⟩
    obtain ⟨z, hz, rfl⟩ := enumD_inv hd
    obtain ⟨y, hy, rfl⟩ : ∃ y, (stepsF xs ps)[j]? = some y ∧ z = .int y := by
      rw [List.getElem?_map] at hz
      cases e1 : (stepsF xs ps)[j]? with
      | none => rw [e1] at hz; cases hz
      | some y => rw [e1] at hz; exact ⟨y, rfl, (Option.some.inj hz).symm⟩
    have hj : j < ps.length := by
      have := (List.getElem?_eq_some_iff.mp hy).1
      rwa [steps_len] at this
    have ey : y = stepF xs ps j := by
      rw [List.getElem?_eq_getElem (by rw [steps_len]; exact hj), steps_get] at hy
      exact (Option.some.inj hy).symm
    subst ey
    walk_at "g"
    intro p2
    walk_at "g"
    refine ⟨0, p2, _, j, rfl, rfl, rfl, by omega, by omega, by show 1 * _ ≤ _; rw [sizeLine_eq]; omega, ?_⟩
    refine we_lst ?_
    walk_at "g"
    refine ⟨_, _, .l, .l, ?_, fun pr => ?_⟩
    · rw [sizeLine_eq]
      simp
      omega
    have e0 : (List.replicate (j : Int).toNat [D.int 0]).flatten ++ [D.int (stepF xs ps j)] = (rowTo xs ps j 0).map D.int := by
      show _ = (List.replicate j (0 : Int) ++ [stepF xs ps j]).map D.int
      rw [List.map_append, List.map_replicate, show (j : Int).toNat = j by omega]
      congr 1
      induction j with
      | zero => rfl
      | succ n ih => simp [List.replicate_succ]
    rw [e0]
    refine wb_drop (M0 := (pr, .lst ((rowTo xs ps j 0).map D.int)) :: (p, .lst (linesD xs ps j)) :: M) (List.Sublist.refl _) ?_
    walk_at "s"
    refine ws_for N (wi_list ?_)
    walk_at "g"
    refine .inl ⟨_, hl2.cons.cons, ?_⟩
    rw [show ((j : Nat) : Int) + 1 = ((j + 1 : Nat) : Int) by omega, cutD_k, ← List.map_drop]
    refine ⟨_, .l, fun i δ' M' => ∃ (y8 : Option D), δ' = [some d, some e, some (.lst (bookD (zerB xs))), some (.lst ((stepsF xs ps).map D.int)), some (.cel p), some (.int j), some (.int (stepF xs ps j)), some (.cel pr), y8, none] ∧ M' = (pr, .lst ((rowTo xs ps j i).map D.int)) :: (p, .lst (linesD xs ps j)) :: M, ?_, fun _ _ _ _ _ => .l, ?_, ?_⟩
    · exact ⟨x8, rfl, rfl⟩
    · rintro i dd δ' M' hd ⟨y8, rfl, rfl⟩
      obtain ⟨y, hy, rfl⟩ : ∃ y, (ps.drop (j + 1))[i]? = some y ∧ dd = .int y := by
        rw [List.getElem?_map] at hd
        cases e1 : (ps.drop (j + 1))[i]? with
        | none => rw [e1] at hd; cases hd
        | some y => rw [e1] at hd; exact ⟨y, rfl, (Option.some.inj hd).symm⟩
      have hi : j + 1 + i < ps.length := by
        have := (List.getElem?_eq_some_iff.mp hy).1
        rw [List.length_drop] at this
        omega
      have ey : y = ps.getD (j + 1 + i) 0 := by
        rw [List.getElem?_drop] at hy
        rw [List.getD_eq_getElem?_getD, hy]; rfl
      have rl := rowTo_len (xs := xs) (ps := ps) j i
      walk_at "g"
      refine ⟨_, _, _, _, rfl, hl2.cons.cons, .c 0 rfl, fun q2 => ?_⟩
      refine ⟨q2, _, rfl, rfl, ?_⟩
      rw [zip_ints]
      refine .inr (.inr ⟨_, _, .l, .l, ?_, ?_⟩)
      · unfold bookD zerB
        rw [List.length_map, List.length_map, List.length_map, List.length_zip, sizeLine_eq]; omega
      rw [show bookD (zerB xs) ++ bookD (ps.zip (rowTo xs ps j i)) = bookD (zerB xs ++ ps.zip (rowTo xs ps j i)) by unfold bookD; rw [List.map_append]]
      walk_at "g"
      rw [ey]
      refine cls_argF O.zer (zerB_ok hp.1) (zerB_pl pl) (rowTo_fits O hj i (by omega)) rl hi .l ?_
      walk_at "g"
      refine ⟨by rw [List.length_map, rl, sizeLine_eq]; omega, ?_⟩
      refine ⟨_, rfl, ?_⟩
      show _ = (pr, Cell.lst ((rowTo xs ps j i ++ [leastF (zerB xs ++ ps.zip (rowTo xs ps j i)) (ps.getD (j + 1 + i) 0)]).map D.int)) :: _
      rw [List.map_append]
      rfl
    · rintro δ' M' ⟨y8, rfl, rfl⟩
      rw [List.length_map, List.length_drop]
      refine wb_one (ws_expr (we_append ?_))
      walk_at "n"
      refine ⟨p, rfl, ⟨1, _, rfl⟩, wa_cons (we_froz 0 ?_)⟩
      walk_at "n"
      refine ⟨pr, _, rfl, rfl, ?_⟩
      walk_at "g"
      refine ⟨by unfold linesD; rw [List.length_map, List.length_range, sizeLine_eq]; omega, ?_⟩
      refine ⟨_, _, _, _, rfl, ?_⟩
      show (p, Cell.lst (linesD xs ps j ++ [.lst ((rowTo xs ps j (ps.length - (j + 1))).map D.int)])) :: M = _
      unfold linesD
      rw [List.range_succ, List.map_append]
      rfl
  · rintro δ' M' ⟨x5, x6, x7, x8, rfl, rfl⟩
    rw [enumD_len, List.length_map, steps_len]
    walk_at "g"
    exact q p
end
/-! SsB -/
set_option exponentiation.threshold 100000
def fMulP : D → D
  | .tup [.int a, .int b] => .int (a * b)
  | _ => .non
theorem mul_D (ws us : List Int) : (zipD (ws.map D.int) (us.map D.int)).map fMulP = ((ws.zip us).map fun p => p.1 * p.2).map D.int := by
  unfold zipD
  rw [List.zip_map, List.map_map, List.map_map, List.map_map]
  rfl
theorem sum_snoc (l : List Int) (x : Int) : (l ++ [x]).sum = l.sum + x := by simp
theorem dot_sum (ws : List Int) : ∀ (n : Nat) (us : List Int), us.length = n → n ≤ ws.length → ((ws.zip us).map fun p => p.1 * p.2).sum = dotF ws us
  | 0, us, h, _ => by
    obtain rfl : us = [] := List.eq_nil_of_length_eq_zero h
    simp [dotF, dotI]
  | n + 1, us, h, hw => by
    obtain ⟨u, x, rfl⟩ : ∃ u x, us = u ++ [x] := ⟨us.dropLast, us.getLast (by intro e; rw [e] at h; simp at h), (List.dropLast_concat_getLast (by intro e; rw [e] at h; simp at h)).symm⟩
    have hu : u.length = n := by rw [List.length_append] at h; simpa using h
    have ih := dot_sum ws n u hu (by omega)
    rw [zip_snoc (ps := ws) (vs := u) (v := x) (by omega), List.map_append, List.map_cons, List.map_nil, sum_snoc, ih]
    unfold dotF
    rw [List.length_append, List.length_singleton]
    show _ = dotI _ _ u.length + ws.getD u.length 0 * (u ++ [x]).getD u.length 0
    have e1 : (u ++ [x]).getD u.length 0 = x := by rw [List.getD_eq_getElem?_getD, List.getElem?_append_right (Nat.le_refl _), Nat.sub_self]; rfl
    rw [e1]
    congr 1
    exact dotI_congr fun i hi => by rw [List.getD_eq_getElem?_getD, List.getD_eq_getElem?_getD, List.getElem?_append_left hi]
def TSummed : TSp := fun ds M Q _ => ∃ (d e : D) (ws us : List Int), ds = [d, e] ∧ LV M d (ws.map D.int) ∧ LV M e (us.map D.int) ∧ us.length = ws.length ∧ ws.length ≤ 8 ∧ (∀ w ∈ ws, w.natAbs ≤ 2 ^ 200) ∧ (∀ u ∈ us, u.natAbs ≤ 2 ^ 9000) ∧ Q (.int (dotF ws us)) M
theorem TSummed_mono : Mono TSummed := fun ds M Q Q' E E' h _ ⟨d, e, ws, us, h1, h2, h3, h4, h5, h6, h7, h8⟩ => ⟨d, e, ws, us, h1, h2, h3, h4, h5, h6, h7, h _ _ h8⟩
theorem TSummed_len : ∀ ds M Q E, TSummed ds M Q E → ds.length = 2 := fun ds M Q E h => by obtain ⟨_, _, _, _, rfl, _⟩ := h; rfl
section
variable {P : Program} {w : World} {K : PySem.W.Frag} {mg : Str → Option Value} {base : Heap}
local macro_rules
  | `(tactic| walk_at "ok") => `(tactic| first
  | ((show BlkOk N_summed (defScope st_summed) _ _); exact blkOk_by (by decide +kernel)))
  | `(tactic| walk_at "tG") => `(tactic| first
  | ((with_reducible refine gG "weight" ?_); refine wg_nm 2 ?_)
  | ((with_reducible refine gG "value" ?_); refine wg_nm 3 ?_))
  | `(tactic| walk_at "eWECall") => `(tactic| first
  | ((with_reducible refine gC "sum" ?_); refine we_sum rfl rfl (by assumption) ?_))
  | `(tactic| walk_at "n") => `(tactic| first
  | ((with_reducible refine gN "weights" ?_); refine we_nm 0 rfl rfl ?_)
  | ((with_reducible refine gN "values" ?_); refine we_nm 1 rfl rfl ?_)
  | ((with_reducible refine gN "weight" ?_); refine we_nm 2 rfl rfl ?_)
  | ((with_reducible refine gN "value" ?_); refine we_nm 3 rfl rfl ?_))
  | `(tactic| walk_at "t") => `(tactic| first
  | ((with_reducible show WG _ _ (Expr.Name _ _) _ _ _ _); walk_at "tG")
  | ((with_reducible show WS _ _ (Stmt.Assign [Expr.Tuple _ _ _] _ _) _ _ _); refine ws_asg ?_))
  | `(tactic| walk_at "tg") => `(tactic| first
  | exact Tg.two (i := 2) (j := 3) rfl rfl (by decide) rfl rfl)
theorem fn_summed {f : Addr} {fd : FuncData} (b_sum : mg "sum" = none) (b_zip : mg "zip" = none) (Fn : L2.Fun K "summed" "summed" st_summed f fd) :
    FnOk P w K mg base (L2.CX P w) 1 f fd ["weights", "values"] (spG K TSummed) := by
  refine fn_ok Fn sc_summed rfl TSummed_len ?_
  intro cdv A outer s H E N hr ds M Q X' h
  obtain ⟨d, e, ws, us, rfl, hl, hl2, hlen, h8, hw, hu, q⟩ := h
  show WB _ _ _ [some d, some e, none, none] _ _
  refine wb_one (ws_ret ?_)
  refine we_sum (Nice.calm (by assumption)) rfl (by assumption) (wa_cons (we_froz 0 (we_lcM fMulP N (by walk_at "tg") (by walk_at "ok") (wi_zip rfl (by assumption) ?_))))
  walk_at "g"
  refine ⟨_, _, _, _, rfl, hl, hl2, by rw [zipD_len, List.length_map, sizeLine_eq]; omega, fun _ _ => ⟨hl.cons, hl2.cons⟩, ?_, ?_⟩
  · intro j d' acc p hd
    obtain ⟨u, v, hu', hv', rfl⟩ := zipD_inv hd
    obtain ⟨a, ha, rfl⟩ := List.mem_map.mp (List.mem_of_getElem? hu')
    obtain ⟨b, hb, rfl⟩ := List.mem_map.mp (List.mem_of_getElem? hv')
    refine ⟨_, ⟨_, _, rfl, rfl⟩, fun B => ?_⟩
    walk_at "g"
    all_goals first
      | exact IntMulOk.of_bits (bits_of (hw a ha) (by decide)) (bits_of (hu b hb) (by decide))
      | exact ⟨rfl, rfl⟩
  · intro p
    refine ⟨p, _, rfl, rfl, ?_⟩
    rw [mul_D]
    refine wa_nil ⟨_, _, rfl, .l, ?_⟩
    rw [dot_sum ws _ us rfl (by omega)]
    exact q
end
def TNeedW : TSp := fun ds M Q _ => ∃ (d e : D) (ps ws : List Int), ds = [d, e] ∧ LV M d (ps.map D.int) ∧ LV M e (ws.map D.int) ∧ ws.length = ps.length ∧ ws.length ≤ 8 ∧ Q .non M
theorem TNeedW_mono : Mono TNeedW := fun ds M Q Q' E E' h _ ⟨d, e, ps, ws, h1, h2, h3, h4, h5, h6⟩ => ⟨d, e, ps, ws, h1, h2, h3, h4, h5, h _ _ h6⟩
theorem TNeedW_len : ∀ ds M Q E, TNeedW ds M Q E → ds.length = 2 := fun ds M Q E h => by obtain ⟨_, _, _, _, rfl, _⟩ := h; rfl
section
variable {P : Program} {w : World} {K : PySem.W.Frag} {mg : Str → Option Value} {base : Heap}
local macro_rules
  | `(tactic| walk_at "ok") => `(tactic| first
  | ((show BlkOk N_need_weights (defScope st_need_weights) _ _); exact blkOk_by (by decide +kernel)))
  | `(tactic| walk_at "tS") => `(tactic| first
  | ((with_reducible refine gS "is_list" ?_); refine ws_st 2 ?_))
  | `(tactic| walk_at "tG") => `(tactic| first
  | ((with_reducible refine gG "weight" ?_); refine wg_nm 3 ?_))
  | `(tactic| walk_at "eWECall") => `(tactic| first
  | ((with_reducible refine gC "isinstance" ?_); refine we_isi rfl (by assumption) ?_)
  | ((with_reducible refine gC "len" ?_); refine we_len rfl (by assumption) ?_)
  | ((with_reducible refine gC "all" ?_); refine we_all rfl rfl (by assumption) ?_)
  | ((with_reducible show WE _ _ (Expr.Call (Expr.Name _ _) _ _ _) _ _ _); walk_at "c"))
  | `(tactic| walk_at "n") => `(tactic| first
  | ((with_reducible refine gN "weights" ?_); refine we_nm 1 rfl rfl ?_)
  | ((with_reducible refine gN "places" ?_); refine we_nm 0 rfl rfl ?_)
  | ((with_reducible refine gN "is_list" ?_); refine we_nm 2 rfl rfl ?_)
  | ((with_reducible refine gN "weight" ?_); refine we_nm 3 rfl rfl ?_)
  | ((with_reducible show WE _ _ (Expr.Name "list" _) _ _ _); refine we_bltn (v := .ty "list") rfl (by assumption) (by decide +kernel) rfl ?_))
  | `(tactic| walk_at "t") => `(tactic| first
  | ((with_reducible show WS _ _ (Stmt.Assign [Expr.Name _ _] _ _) _ _ _); walk_at "tS")
  | ((with_reducible show WG _ _ (Expr.Name _ _) _ _ _ _); walk_at "tG")
  | ((with_reducible show WS _ _ (Stmt.Assign [Expr.Tuple _ _ _] _ _) _ _ _); refine ws_asg ?_))
  | `(tactic| walk_at "c") => `(tactic| first
  | ((with_reducible refine gCK "is_integer" ?_); refine we_cl "is_integer" ?_))
  | `(tactic| walk_at "tg") => `(tactic| first
  | exact Tg.one (i := 3) rfl rfl)
theorem fn_need_weights {f : Addr} {fd : FuncData} (b_isi : mg "isinstance" = none) (b_len : mg "len" = none) (b_list : mg "list" = none) (b_all : mg "all" = none) (d_int : FD P w K mg base 1 "is_integer" 1 TInt1) (Fn : L2.Fun K "need_weights" "need_weights" st_need_weights f fd) :
    FnOk P w K mg base (L2.CX P w) 2 f fd ["places", "weights"] (spG K TNeedW) := by
  refine fn_ok Fn sc_need_weights rfl TNeedW_len ?_
  intro cdv A outer s H E N hr ds M Q X' h
  obtain ⟨d, e, ps, ws, rfl, hl, hl2, hlen, h8, q⟩ := h
  show WB _ _ _ [some _, some _, none, none] _ _
  have lv : (ws.map D.int).length = ws.length := List.length_map ..
  have lp : (ps.map D.int).length = ps.length := List.length_map ..
  refine wb_cons ?_
  walk_at "g"
  refine isi1 hl2.ty (by decide) (b := true) (by decide) ?_
  walk_at "g"
  refine Sq.len (.inl ⟨rfl, hl2⟩) ?_
  walk_at "g"
  refine Sq.len (.inl ⟨rfl, hl⟩) ?_
  walk_at "g"
  refine iteQ (by rw [decide_eq_true (show (((ws.map D.int).length : Nat) : Int) = (((ps.map D.int).length : Nat) : Int) by rw [lv, lp, hlen])]; rfl) ?_
  walk_at "g"
  refine we_froz 0 (we_lcM (fun _ => .bl true) N (by walk_at "tg") (by walk_at "ok") (wi_list ?_))
  walk_at "g"
  refine ⟨_, hl2, by rw [lv, sizeLine_eq]; omega, fun _ _ => hl2.cons, ?_, ?_⟩
  · intro j d' acc p hd
    obtain ⟨y, hy, rfl⟩ := List.mem_map.mp (List.mem_of_getElem? hd)
    refine ⟨_, rfl, fun B => ?_⟩
    walk_at "g"
    exact ⟨y, rfl, rfl, rfl⟩
  · intro p
    refine ⟨p, _, rfl, rfl, ?_⟩
    walk_at "g"
    refine ⟨_, List.replicate ws.length true, rfl, ?_, ?_⟩
    · rw [show (List.replicate ws.length true).map D.bl = (ws.map D.int).map fun _ => D.bl true by rw [List.map_map, List.map_replicate]; exact (List.map_const' ..).symm]
      exact .l
    · rw [show (List.replicate ws.length true).all id = true by simp]
      walk_at "g"
      exact q
end
/-- the class of a weighted sum -/
def IsSum (xs : List (Int × Int)) (ps ws : List Int) (T m : Int) : Prop := 0 ≤ m ∧ (0 < m → 0 ≤ T ∧ T < m) ∧ ∀ z : Int, (∃ u : List Int, u.length = ps.length ∧ Fits (xs ++ ps.zip u) ∧ dotF ws u = z) ↔ m ∣ z - T
def TSureSum : TSp := fun ds M Q _ => ∃ (d e g : D) (xs : List (Int × Int)) (ps ws : List Int), ds = [d, e, g] ∧ LV M d (bookD xs) ∧ LV M e (ps.map D.int) ∧ LV M g (ws.map D.int) ∧ PossOk xs ∧ PlOk xs ps ∧ ws.length = ps.length ∧ (∀ w ∈ ws, w.natAbs ≤ 2 ^ 200) ∧ ∀ T m, IsSum xs ps ws T m → Q (.tup [.int T, .int m]) M
theorem TSureSum_mono : Mono TSureSum := fun ds M Q Q' E E' h _ ⟨d, e, g, xs, ps, ws, h1, h2, h3, h4, h5, h6, h7, h8, h9⟩ => ⟨d, e, g, xs, ps, ws, h1, h2, h3, h4, h5, h6, h7, h8, fun T m z => h _ _ (h9 T m z)⟩
theorem TSureSum_len : ∀ ds M Q E, TSureSum ds M Q E → ds.length = 3 := fun ds M Q E h => by obtain ⟨_, _, _, _, _, _, rfl, _⟩ := h; rfl
section
variable {P : Program} {w : World} {K : PySem.W.Frag} {mg : Str → Option Value} {base : Heap}
local macro_rules
  | `(tactic| walk_at "ok") => `(tactic| first
  | ((show BlkOk N_sure_sum (defScope st_sure_sum) _ _); exact blkOk_by (by decide +kernel)))
  | `(tactic| walk_at "tS") => `(tactic| first
  | ((with_reducible refine gS "modulus" ?_); refine ws_st 3 ?_)
  | ((with_reducible refine gS "values" ?_); refine ws_st 5 ?_)
  | ((with_reducible refine gS "total" ?_); refine ws_st 7 ?_))
  | `(tactic| walk_at "tG") => `(tactic| first
  | ((with_reducible refine gG "row" ?_); refine wg_nm 4 ?_)
  | ((with_reducible refine gG "place" ?_); refine wg_nm 6 ?_))
  | `(tactic| walk_at "eWECall") => `(tactic| first
  | ((with_reducible show WE _ _ (Expr.Call (Expr.Name _ _) _ _ _) _ _ _); walk_at "c")
  | ((with_reducible show WE _ _ (Expr.Call (Expr.Attribute _ "append" _) _ _ _) _ _ _); refine we_append ?_)
  | ((with_reducible refine gC "abs" ?_); refine we_abs rfl (by assumption) ?_)
  | ((with_reducible refine gC "list" ?_); refine we_list rfl (by assumption) ?_))
  | `(tactic| walk_at "n") => `(tactic| first
  | ((with_reducible refine gN "places" ?_); refine we_nm 1 rfl rfl ?_)
  | ((with_reducible refine gN "book" ?_); refine we_nm 0 rfl rfl ?_)
  | ((with_reducible refine gN "modulus" ?_); refine we_nm 3 rfl rfl ?_)
  | ((with_reducible refine gN "weights" ?_); refine we_nm 2 rfl rfl ?_)
  | ((with_reducible refine gN "values" ?_); refine we_nm 5 rfl rfl ?_)
  | ((with_reducible refine gN "total" ?_); refine we_nm 7 rfl rfl ?_)
  | ((with_reducible refine gN "row" ?_); refine we_nm 4 rfl rfl ?_)
  | ((with_reducible refine gN "place" ?_); refine we_nm 6 rfl rfl ?_)
  | ((with_reducible show WE _ _ (Expr.Name "list" _) _ _ _); refine we_bltn (v := .ty "list") rfl (by assumption) (by decide +kernel) rfl ?_))
  | `(tactic| walk_at "t") => `(tactic| first
  | ((with_reducible show WS _ _ (Stmt.Assign [Expr.Name _ _] _ _) _ _ _); walk_at "tS")
  | ((with_reducible show WG _ _ (Expr.Name _ _) _ _ _ _); walk_at "tG")
  | ((with_reducible show WS _ _ (Stmt.Assign [Expr.Tuple _ _ _] _ _) _ _ _); refine ws_asg ?_))
  | `(tactic| walk_at "c") => `(tactic| first
  | ((with_reducible refine gCK "summed" ?_); refine we_cl "summed" ?_)
  | ((with_reducible refine gCK "need_open" ?_); refine we_cl "need_open" ?_)
  | ((with_reducible refine gCK "need_weights" ?_); refine we_cl "need_weights" ?_)
  | ((with_reducible refine gCK "need_fitting" ?_); refine we_cl "need_fitting" ?_)
  | ((with_reducible refine gCK "vectors_in" ?_); refine we_cl "vectors_in" ?_)
  | ((with_reducible refine gCK "divisor_of" ?_); refine we_cl "divisor_of" ?_)
  | ((with_reducible refine gCK "class_by" ?_); refine we_cl "class_by" ?_))
  | `(tactic| walk_at "e") => `(tactic| ((with_reducible show WE _ _ (Expr.Call (Expr.Name (Str.ofString "list") _) [Expr.Call (Expr.Name (Str.ofString "zip") _) _ _ _] _ _) _ _ _); refine we_froz 0 (we_listZip (Nice.calm (by assumption)) rfl (by assumption) rfl (by assumption) ?_)))
theorem fn_sure_sum {f : Addr} {fd : FuncData} (b_abs : mg "abs" = none) (b_list : mg "list" = none) (b_zip : mg "zip" = none) (d_open : FD P w K mg base 6 "need_open" 2 TOpen) (d_w : FD P w K mg base 2 "need_weights" 2 TNeedW) (d_fit : FD P w K mg base 5 "need_fitting" 1 TPoss) (d_vec : FD P w K mg base 4 "vectors_in" 2 TVecs)
    (d_sum : FD P w K mg base 1 "summed" 2 TSummed) (d_gcd : FD P w K mg base 1 "divisor_of" 2 TGcd0) (d_cls : FD P w K mg base 3 "class_by" 2 TClsBy) (Fn : L2.Fun K "sure_sum" "sure_sum" st_sure_sum f fd) :
    FnOk P w K mg base (L2.CX P w) 7 f fd ["book", "places", "weights"] (spG K TSureSum) := by
  refine fn_ok Fn sc_sure_sum rfl TSureSum_len ?_
  intro cdv A outer s H E N hr ds M Q X' h
  obtain ⟨d, e, g, xs, ps, ws, rfl, hl, hl2, hl3, hp, pl, hwl, hwb, q⟩ := h
  have O := opn_of hp.2 pl
  have hx := hp.1.1
  have hp8 := pl.2.1
  have Bs := step_bdI hp.1 pl
  have B0 : (0 : Int) ≤ 2 ^ 3264 := Int.le_of_lt (Int.pow_pos (by decide))
  show WB _ _ _ [some d, some e, some g, none, none, none, none, none] _ _
  refine wb_cons ?_
  walk_at "g"
  refine ⟨d, e, xs, ps, rfl, hl, hl2, hp.1, pl, ?_⟩
  walk_at "g"
  refine ⟨e, g, ps, ws, rfl, hl2, hl3, hwl, by omega, ?_⟩
  walk_at "g"
  refine ⟨d, xs, rfl, hl, hp, ?_⟩
  walk_at "g"
  refine ws_for N (wi_list ?_)
  walk_at "g"
  refine ⟨d, e, xs, ps, rfl, hl, hl2, hp, pl, fun pv => ?_⟩
  have hll : (linesD xs ps ps.length).length = ps.length := by unfold linesD; rw [List.length_map, List.length_range]
  refine ⟨_, .c 0 rfl, fun i δ' M' => ∃ (x4 : Option D), δ' = [some d, some e, some g, some (.int (gcdTo (fun i => ws.getD i 0) (fun k i => (rowF xs ps k).getD i 0) ps.length i)), x4, none, none, none] ∧ M' = (pv, .lst (linesD xs ps ps.length)) :: M, ?_, ?_, ?_, ?_⟩
  · exact ⟨none, rfl, rfl⟩
  · rintro i δ' M' _ ⟨x4, rfl, rfl⟩
    exact .c 0 rfl
  · rintro j dd δ' M' hd ⟨x4, rfl, rfl⟩
    have hj : j < ps.length := by
      have := (List.getElem?_eq_some_iff.mp hd).1
      omega
    obtain rfl : dd = .lst ((rowF xs ps j).map D.int) := by
      unfold linesD at hd
      rw [List.getElem?_map, List.getElem?_range hj] at hd
      exact (Option.some.inj hd).symm
    have rb := rowTo_bd O Bs hj B0 (ps.length - (j + 1)) (by omega)
    have rl := rowF_len (xs := xs) hj
    walk_at "g"
    refine ⟨g, _, ws, rowF xs ps j, rfl, hl3.cons, .l, by omega, by omega, hwb, fun u hu => Nat.le_trans (bdN (rb u hu)) (Nat.pow_le_pow_right (by decide) (by decide)), ?_⟩
    walk_at "g"
    refine ⟨_, _, rfl, gcdTo_nn _ _ _ _, by split <;> omega, ?_⟩
    have ga : ∀ a b : Int, Int.gcd a (if b < 0 then -b else b) = Int.gcd a b := fun a b => by
      split
      · rw [Int.gcd_neg]
      · rfl
    rw [ga]
    refine ⟨some (.lst ((rowF xs ps j).map D.int)), ?_, rfl⟩
    have e1 : dotF ws (rowF xs ps j) = dotI (fun i => ws.getD i 0) (fun i => (rowF xs ps j).getD i 0) ps.length := by unfold dotF; rw [rl]
    rw [e1]
    rfl
  · rintro δ' M' ⟨x4, rfl, rfl⟩
    rw [hll]
    refine wb_drop (M0 := M) (List.sublist_cons_self _ _) ?_
    walk_at "g"
    refine we_lstC ?_
    walk_at "g"
    intro p
    walk_at "g"
    refine ws_for N (wi_list ?_)
    walk_at "g"
    refine ⟨_, hl2.cons, fun i δ' M' => ∃ (x6 : Option D), δ' = [some d, some e, some g, some (.int (gcdTo (fun i => ws.getD i 0) (fun k i => (rowF xs ps k).getD i 0) ps.length ps.length)), x4, some (.cel p), x6, none] ∧ M' = (p, .lst ((lstTo xs ps i).map D.int)) :: M, ?_, ?_, ?_, ?_⟩
    · exact ⟨none, rfl, rfl⟩
    · rintro i δ' M' _ ⟨x6, rfl, rfl⟩
      exact hl2.cons
    · rintro j dd δ' M' hd ⟨x6, rfl, rfl⟩
      obtain ⟨y, hy, rfl⟩ : ∃ y, ps[j]? = some y ∧ dd = .int y := by
        rw [List.getElem?_map] at hd
        cases e1 : ps[j]? with
        | none => rw [e1] at hd; cases hd
        | some y => rw [e1] at hd; exact ⟨y, rfl, (Option.some.inj hd).symm⟩
      have hj : j < ps.length := (List.getElem?_eq_some_iff.mp hy).1
      have ey : y = ps.getD j 0 := by rw [List.getD_eq_getElem?_getD, hy]; rfl
      have ll := lstTo_len (xs := xs) (ps := ps) j
      walk_at "g"
      refine ⟨_, _, _, _, rfl, hl2.cons, .c 0 rfl, fun q2 => ?_⟩
      refine ⟨q2, _, rfl, rfl, ?_⟩
      rw [zip_ints]
      refine .inr (.inr ⟨_, _, hl.cons, .l, ?_, ?_⟩)
      · unfold bookD
        rw [List.length_map, List.length_map, List.length_zip, sizeLine_eq]; omega
      rw [show bookD xs ++ bookD (ps.zip (lstTo xs ps j)) = bookD (xs ++ ps.zip (lstTo xs ps j)) by unfold bookD; rw [List.map_append]]
      walk_at "g"
      rw [ey]
      refine cls_argF O hp.1 pl (lstTo_fits O j (by omega)) ll hj .l ?_
      walk_at "g"
      refine ⟨by rw [List.length_map, ll, sizeLine_eq]; omega, ?_⟩
      refine ⟨_, rfl, ?_⟩
      show _ = (p, Cell.lst ((lstTo xs ps j ++ [leastF (xs ++ ps.zip (lstTo xs ps j)) (ps.getD j 0)]).map D.int)) :: _
      rw [List.map_append]
      rfl
    · rintro δ' M' ⟨x6, rfl, rfl⟩
      rw [List.length_map]
      have lb := lstTo_bd O Bs ps.length (Nat.le_refl _)
      have ll := lstTo_len (xs := xs) (ps := ps) ps.length
      walk_at "g"
      refine ⟨g, _, ws, lstTo xs ps ps.length, rfl, hl3.cons, .c 0 rfl, by omega, by omega, hwb, fun u hu => Nat.le_trans (bdN (lb u hu)) (Nat.pow_le_pow_right (by decide) (by decide)), ?_⟩
      refine wb_drop (M0 := M) (List.sublist_cons_self _ _) ?_
      have hs := sums_clsF O (ws := ws)
      have gn := gcdTo_nn (fun i => ws.getD i 0) (fun k i => (rowF xs ps k).getD i 0) ps.length ps.length
      generalize dotF ws (lstTo xs ps ps.length) = T at *
      generalize gcdTo (fun i => ws.getD i 0) (fun k i => (rowF xs ps k).getD i 0) ps.length ps.length = m at *
      walk_at "g"
      refine iteD (fun h => ?_) (fun h => ?_)
      · subst h
        walk_at "g"
        exact q T 0 ⟨Int.le_refl _, fun h => absurd h (by decide), hs⟩
      · walk_at "g"
        rotate_left 1
        · omega
        refine q (T % m) m ⟨gn, fun h => ⟨Int.emod_nonneg _ (by omega), Int.emod_lt_of_pos _ h⟩, fun z => (hs z).trans ?_⟩
        have e := Int.emod_add_mul_ediv T m
        have e2 : z - T % m = (z - T) + m * (T / m) := by omega
        rw [e2]
        exact ⟨fun a => Int.dvd_add a (Int.dvd_mul_right _ _), fun a => by
          have := Int.dvd_sub a (Int.dvd_mul_right m (T / m))
          rwa [Int.add_sub_cancel] at this⟩
end
/-! NwA -/
set_option exponentiation.threshold 100000
/-- a place that is not told -/
def NewPl (xs : List (Int × Int)) (pl : Int) : Prop := ∀ x ∈ xs, x.1 ≠ pl
def TNew : TSp := fun ds M Q _ => ∃ (b : Addr) (xs : List (Int × Int)) (own : List Int) (sh reach : Int) (m Z : Nat), ds = [.cel b, .lst (bookD xs), rowD own sh reach, .int m] ∧ (xs.length ≤ 24 ∧ (∀ x ∈ xs, x.1.natAbs ≤ Z) ∧ reach ≤ (Z : Int) ∧ Z ≤ 2 ^ 105) ∧ RowOk own sh reach ∧ 1 ≤ m ∧ m ≤ 8 ∧ CL M b fun L f => ∃ n, StoreL n L ∧ n ≤ 800000 ∧ ∀ (ns : List Int) L', 1 ≤ ns.length → ns.length ≤ m → ns.Nodup → (∀ z ∈ ns, NewPl xs z ∧ z.natAbs ≤ Z + 1) → StoreL (n + 40) L' → Q (.lst (ns.map D.int)) (f L')
theorem TNew_mono : Mono TNew := fun ds M Q Q' E E' h _ ⟨b, xs, own, sh, reach, m, Z, h1, h2, h3, h4, h5, h6⟩ => ⟨b, xs, own, sh, reach, m, Z, h1, h2, h3, h4, h5, h6.imp fun L f ⟨n, g1, g2, g3⟩ => ⟨n, g1, g2, fun ns L' a c e f g => h _ _ (g3 ns L' a c e f g)⟩⟩
theorem TNew_len : ∀ ds M Q E, TNew ds M Q E → ds.length = 4 := fun ds M Q E h => by obtain ⟨_, _, _, _, _, _, _, rfl, _⟩ := h; rfl
theorem fst_book (xs : List (Int × Int)) : (bookD xs).map fFst = (xs.map Prod.fst).map D.int := by
  unfold bookD
  rw [List.map_map, List.map_map]
  rfl
theorem new_of {xs : List (Int × Int)} {z : Int} (h : z ∉ xs.map Prod.fst) : NewPl xs z := fun x hx e => h (List.mem_map.mpr ⟨x, hx, e⟩)
section
variable {P : Program} {w : World} {K : PySem.W.Frag} {mg : Str → Option Value} {base : Heap}
local macro_rules
  | `(tactic| walk_at "ok") => `(tactic| first
  | ((show BlkOk N_l_new (defScope st_l_new) _ _); exact blkOk_by (by decide +kernel)))
  | `(tactic| walk_at "tS") => `(tactic| first
  | ((with_reducible refine gS "_law_far" ?_); refine ws_st 7 ?_)
  | ((with_reducible refine gS "_law_beside" ?_); refine ws_st 8 ?_)
  | ((with_reducible refine gS "_law_spot" ?_); refine ws_st 9 ?_))
  | `(tactic| walk_at "tG") => `(tactic| first
  | ((with_reducible refine gG "_law_told" ?_); refine wg_nm 4 ?_)
  | ((with_reducible refine gG "_law_found" ?_); refine wg_nm 5 ?_)
  | ((with_reducible refine gG "_law_turn" ?_); refine wg_nm 6 ?_)
  | ((with_reducible refine gG "_law_row_here" ?_); refine wg_nm 10 ?_))
  | `(tactic| walk_at "eWECall") => `(tactic| first
  | ((with_reducible show WE _ _ (Expr.Call (Expr.Name _ _) _ _ _) _ _ _); walk_at "c")
  | ((with_reducible show WE _ _ (Expr.Call (Expr.Attribute _ "append" _) _ _ _) _ _ _); refine we_append ?_)
  | ((with_reducible refine gC "max" ?_); refine we_max2 rfl rfl (by assumption) ?_)
  | ((with_reducible refine gC "len" ?_); refine we_len rfl (by assumption) ?_))
  | `(tactic| walk_at "n") => `(tactic| first
  | ((with_reducible refine gN "_law_purse_here" ?_); refine we_nm 0 rfl rfl ?_)
  | ((with_reducible refine gN "_law_told" ?_); refine we_nm 4 rfl rfl ?_)
  | ((with_reducible refine gN "_law_found" ?_); refine we_nm 5 rfl rfl ?_)
  | ((with_reducible refine gN "_law_spot" ?_); refine we_nm 9 rfl rfl ?_)
  | ((with_reducible refine gN "_law_row_here_here" ?_); refine we_nm 2 rfl rfl ?_)
  | ((with_reducible refine gN "_law_far" ?_); refine we_nm 7 rfl rfl ?_)
  | ((with_reducible refine gN "_law_book_here" ?_); refine we_nm 1 rfl rfl ?_)
  | ((with_reducible refine gN "_law_most" ?_); refine we_nm 3 rfl rfl ?_)
  | ((with_reducible refine gN "_law_beside" ?_); refine we_nm 8 rfl rfl ?_)
  | ((with_reducible refine gN "_law_row_here" ?_); refine we_nm 10 rfl rfl ?_))
  | `(tactic| walk_at "t") => `(tactic| first
  | ((with_reducible show WS _ _ (Stmt.Assign [Expr.Name _ _] _ _) _ _ _); walk_at "tS")
  | ((with_reducible show WG _ _ (Expr.Name _ _) _ _ _ _); walk_at "tG")
  | ((with_reducible show WS _ _ (Stmt.Assign [Expr.Tuple [Expr.Name "_law_told" _, Expr.Name "_law_found" _] _ _] (Expr.Tuple _ _ _) _) _ _ _); first | refine ws_par (i := 4) (j := 5) (by assumption) rfl rfl (by decide) rfl rfl rfl ?_ | refine ws_asg ?_)
  | ((with_reducible show WS _ _ (Stmt.Assign [Expr.Tuple _ _ _] _ _) _ _ _); refine ws_asg ?_))
  | `(tactic| walk_at "c") => `(tactic| first
  | ((with_reducible refine gCK "_law_toss" ?_); refine we_cl "_law_toss" ?_))
  | `(tactic| walk_at "tg") => `(tactic| first
  | exact Tg.one (i := 10) rfl rfl)
  | `(tactic| walk_at "e") => `(tactic| ((with_reducible show WE _ _ (Expr.Call (Expr.Name "max" _) [_] _ _) _ _ _); refine we_maxL rfl rfl (by assumption) ?_))
theorem fn_lnew {f : Addr} {fd : FuncData} (b_len : mg "len" = none) (b_max : mg "max" = none) (b_range : mg "range" = none) (d_toss : FD P w K mg base 1 "_law_toss" 2 TToss) (Fn : L2.Fun K "_law_new" "_law_new" st_l_new f fd) :
    FnOk P w K mg base (L2.CX P w) 2 f fd ["_law_purse_here", "_law_book_here", "_law_row_here_here", "_law_most"] (spG K TNew) := by
  refine fn_ok Fn sc_l_new rfl TNew_len ?_
  intro cdv A outer s H E N hr ds M Q X' h
  obtain ⟨b, xs, own, sh, reach, m, Z, rfl, ⟨hlen, hb, hz0, hz1⟩, ok, hm1, hm, k, L0, hM, n, hL0, hn, q⟩ := h
  have r0 := ok.r0
  have r1 := ok.r1
  show WB _ _ _ [some (.cel b), some (.lst (bookD xs)), some (.lst [.lst (own.map D.int), .int sh, .int reach]), some (.int m), none, none, none, none, none, none, none] _ _
  refine wb_cons ?_
  walk_at "t"
  refine wa_cons ?_
  refine we_froz 0 (we_lcM fFst N (by walk_at "tg") (by walk_at "ok") (wi_list ?_))
  walk_at "g"
  refine ⟨_, .l, by unfold bookD; rw [List.length_map, sizeLine_eq]; omega, fun _ _ => .l, ?_, ?_⟩
  · intro j d' acc p hd
    obtain ⟨y, hy, rfl⟩ := List.mem_map.mp (List.mem_of_getElem? hd)
    refine ⟨_, rfl, fun B => ?_⟩
    show WE _ _ _ _ _ _
    refine we_ix ?_ (fun _ _ => rfl)
    walk_at "g"
    exact rix_t ⟨_, rfl, rfl, rfl⟩
  intro p1
  refine ⟨p1, _, rfl, rfl, ?_⟩
  rw [fst_book]
  refine wa_cons (we_lstC ?_)
  walk_at "g"
  intro p
  walk_at "g"
  refine ⟨_, _, rfl, ?_⟩
  have fb : ∀ z ∈ xs.map Prod.fst ++ [0], z.natAbs ≤ Z := fun z hz => by
    rcases List.mem_append.mp hz with h | h
    · obtain ⟨x, hx, rfl⟩ := List.mem_map.mp h
      exact hb x hx
    · rw [List.mem_singleton.mp h]; exact Nat.zero_le _
  have fl : (xs.map Prod.fst).length ≤ 24 := by rw [List.length_map]; exact hlen
  have fnew : ∀ z : Int, z ∉ xs.map Prod.fst → NewPl xs z := fun z hz => new_of hz
  generalize xs.map Prod.fst = F at *
  refine wb_cons ?_
  refine ws_for N (wi_range1 rfl (by assumption) ?_)
  walk_at "g"
  refine ttoss (by omega) (by omega) (cl_skip (cl_k hM ⟨_, hL0, by omega, fun t0 L1 h0 h1 hL1 => ?_⟩))
  walk_at "g"
  refine ⟨by omega, by omega, fun j δ' M' => ∃ (x6 x7 x8 x9 : Option D) (ns : List Int) (L' : List D), δ' = [some (.cel b), some (.lst (bookD xs)), some (.lst [.lst (own.map D.int), .int sh, .int reach]), some (.int m), some (.lst (F.map D.int)), some (.cel p), x6, x7, x8, x9, none] ∧ M' = (p, .lst (ns.map D.int)) :: M.set k (b, .lst L') ∧ ns.length ≤ j ∧ (ns.Nodup ∧ ∀ z ∈ ns, NewPl xs z ∧ z.natAbs ≤ Z + 1) ∧ StoreL (n + 1 + 4 * j) L', ?_, fun _ _ _ _ _ => trivial, ?_, ?_⟩
  · exact ⟨none, none, none, none, [], L1, rfl, rfl, Nat.le_refl _, by simp, hL1⟩
  · rintro j d δ' M' hd ⟨x6, x7, x8, x9, ns, L', rfl, rfl, hnj, hns, hL'⟩
    obtain ⟨hj, rfl⟩ := rangeD_inv hd
    have hj4 : j < 8 := by omega
    walk_at "g"
    rotate_left 1
    · exact IntMulOk.of_left (by decide)
    refine ttoss (by omega) (by omega) (cl_skip (cl_set hM ⟨_, hL', by omega, fun t1 L2 h10 h11 hL2 => ?_⟩))
    walk_at "g"
    refine we_lst ?_
    walk_at "g"
    refine .inr (.inr ⟨_, _, .l, .l, by rw [List.length_map, sizeLine_eq]; show F.length + 1 ≤ _; omega, ?_⟩)
    walk_at "g"
    rw [List.length_map]
    refine ttoss (by omega) (by omega) (cl_skip (cl_set hM ⟨_, hL2, by omega, fun t2 L3 h20 h21 hL3 => ?_⟩))
    obtain ⟨i2, rfl⟩ := Int.eq_ofNat_of_zero_le h20
    obtain ⟨be, hbe, hbb⟩ : ∃ be : Int, atI (F.map D.int ++ [D.int 0]) (i2 : Nat) = some (.int be) ∧ be.natAbs ≤ Z := by
      have hl : i2 < (F ++ [0]).length := by rw [List.length_append]; show i2 < F.length + 1; omega
      refine ⟨(F ++ [0])[i2], ?_, fb _ (List.getElem_mem hl)⟩
      rw [show F.map D.int ++ [D.int 0] = (F ++ [0]).map D.int by rw [List.map_append]; rfl]
      exact atI_nat (by rw [List.getElem?_map, List.getElem?_eq_getElem hl]; rfl)
    refine rix_l ⟨_, hbe, ?_⟩
    walk_at "g"
    refine we_lst ?_
    walk_at "g"
    refine ttoss (by decide) (by decide) (cl_skip (cl_set hM ⟨_, hL3, by omega, fun t3 L4 h30 h31 hL4 => ?_⟩))
    walk_at "g"
    refine ttoss (by decide) (by decide) (cl_skip (cl_set hM ⟨_, hL4, by omega, fun t4 L5 h40 h41 hL5 => ?_⟩))
    obtain ⟨z, hz, hzb⟩ : ∃ z : Int, atI [D.int (t3 - 12), D.int (t1 - reach), D.int (t1 - reach), D.int (be + 1)] t4 = some (.int z) ∧ z.natAbs ≤ Z + 1 := by
      have : t4 = 0 ∨ t4 = 1 ∨ t4 = 2 ∨ t4 = 3 := by omega
      rcases this with rfl | rfl | rfl | rfl
      · exact ⟨_, rfl, by omega⟩
      · exact ⟨_, rfl, by omega⟩
      · exact ⟨_, rfl, by omega⟩
      · exact ⟨_, rfl, by omega⟩
    refine rix_l ⟨_, hz, ?_⟩
    walk_at "g"
    refine rin_ints (ns := F) .l ?_
    refine ⟨_, rfl, ?_⟩
    by_cases zF : z ∈ F
    · refine iteQ (by simp [zF]) (iteF' ?_)
      refine wb_nil ?_
      exact ⟨_, _, _, _, ns, L5, rfl, rfl, by omega, hns, hL5.up (by omega)⟩
    · refine iteP (by simp [zF]) ?_
      walk_at "g"
      refine rin_ints (ns := ns) (.c 0 rfl) ?_
      refine ⟨_, rfl, ?_⟩
      by_cases zN : z ∈ ns
      · refine iteQ (by simp [zN]) ?_
        refine wb_nil ?_
        exact ⟨_, _, _, _, ns, L5, rfl, rfl, by omega, hns, hL5.up (by omega)⟩
      · refine iteP (by simp [zN]) ?_
        walk_at "g"
        refine ⟨by rw [List.length_map, sizeLine_eq]; omega, ?_⟩
        refine ⟨_, _, _, _, ns ++ [z], L5, rfl, by rw [List.map_append]; rfl, by rw [List.length_append]; show ns.length + 1 ≤ _; omega, ⟨List.nodup_append.mpr ⟨hns.1, (by simp : List.Nodup [_]), fun a ha c hc e => zN (by rw [List.mem_singleton.mp hc] at e; rw [← e]; exact ha)⟩, fun y hy => ?_⟩, hL5.up (by omega)⟩
        rcases List.mem_append.mp hy with hy | hy
        · exact hns.2 y hy
        · rw [List.mem_singleton.mp hy]
          exact ⟨fnew z zF, hzb⟩
  · rintro δ' M' ⟨x6, x7, x8, x9, ns, L', rfl, rfl, hnj, hns, hL'⟩
    rw [rangeD_len] at hnj hL'
    have hn4 : ns.length ≤ m := by omega
    have hLf : StoreL (n + 40) L' := hL'.up (by omega)
    refine wb_one (ws_ret (WE.few ?_))
    walk_at "g"
    refine req_intsN (xs := ns) (ys := []) (.c 0 rfl) .l ?_
    by_cases h0 : ns = []
    · refine ⟨_, rfl, iteQ (by rw [decide_eq_true h0]; rfl) ?_⟩
      refine we_lst ?_
      walk_at "g"
      refine we_lst ?_
      walk_at "g"
      refine .inr (.inr ⟨_, _, .l, .l, by rw [List.length_map, sizeLine_eq]; show F.length + 1 ≤ _; omega, ?_⟩)
      refine ⟨F ++ [0], by rw [List.map_append]; exact .l, by simp, fun mx hmx hle => ?_⟩
      walk_at "g"
      refine ⟨M.set k (b, Cell.lst L'), List.sublist_cons_self _ _, q [mx + 1] L' (show 1 ≤ 1 by decide) (show 1 ≤ m from hm1) ((by simp : List.Nodup [_])) (fun y hy => ?_) hLf⟩
      rw [List.mem_singleton.mp hy]
      have := fb mx hmx
      exact ⟨fnew _ fun hin => by have := hle (mx + 1) (List.mem_append_left _ hin); omega, by omega⟩
    · refine ⟨_, rfl, iteP (by rw [decide_eq_false h0]; rfl) ?_⟩
      refine we_froz 0 ?_
      walk_at "g"
      exact ⟨p, _, rfl, rfl, M.set k (b, Cell.lst L'), List.Sublist.refl _, q ns L' (by cases ns with | nil => exact absurd rfl h0 | cons _ _ => exact Nat.succ_le_succ (Nat.zero_le _)) hn4 hns.1 hns.2 hLf⟩
end
/-! MoA -/
set_option exponentiation.threshold 100000
def TBookR : TSp := fun ds M Q _ => ∃ (b : Addr) (own : List Int) (sh reach : Int) (m : Nat), ds = [.cel b, rowD own sh reach, .int m] ∧ RowOk own sh reach ∧ m ≤ 24 ∧ CL M b fun L f => ∃ n, StoreL n L ∧ n ≤ 900000 ∧
  ∀ (ns : List Int) L', PossOk (bkOf own sh ns) → ns.length ≤ m → (∀ x ∈ ns, x.natAbs ≤ 10 ^ 29 ∧ (x.natAbs : Int) ≤ reach + 48) → StoreL (n + 100) L' → Q (.lst (bookD (bkOf own sh ns))) (f L')
theorem TBookR_mono : Mono TBookR := fun ds M Q Q' E E' h _ ⟨b, own, sh, reach, m, h1, h2, h3, h4⟩ => ⟨b, own, sh, reach, m, h1, h2, h3, h4.imp fun L f ⟨n, g1, g2, g3⟩ => ⟨n, g1, g2, fun ns L' a b c e => h _ _ (g3 ns L' a b c e)⟩⟩
theorem TBookR_len : ∀ ds M Q E, TBookR ds M Q E → ds.length = 3 := fun ds M Q E h => by obtain ⟨_, _, _, _, _, rfl, _⟩ := h; rfl
section
variable {P : Program} {w : World} {K : PySem.W.Frag} {mg : Str → Option Value} {base : Heap}
local macro_rules
  | `(tactic| walk_at "ok") => `(tactic| first
  | ((show BlkOk N_l_book (defScope st_l_book) _ _); exact blkOk_by (by decide +kernel)))
  | `(tactic| walk_at "tG") => `(tactic| first
  | ((with_reducible refine gG "_law_spot" ?_); refine wg_nm 3 ?_))
  | `(tactic| walk_at "eWECall") => `(tactic| first
  | ((with_reducible show WE _ _ (Expr.Call (Expr.Name _ _) _ _ _) _ _ _); walk_at "c"))
  | `(tactic| walk_at "n") => `(tactic| first
  | ((with_reducible refine gN "_law_row_here_here" ?_); refine we_nm 1 rfl rfl ?_)
  | ((with_reducible refine gN "_law_spot" ?_); refine we_nm 3 rfl rfl ?_)
  | ((with_reducible refine gN "_law_purse_here" ?_); refine we_nm 0 rfl rfl ?_)
  | ((with_reducible refine gN "_law_most" ?_); refine we_nm 2 rfl rfl ?_))
  | `(tactic| walk_at "t") => `(tactic| first
  | ((with_reducible show WG _ _ (Expr.Name _ _) _ _ _ _); walk_at "tG")
  | ((with_reducible show WS _ _ (Stmt.Assign [Expr.Tuple _ _ _] _ _) _ _ _); refine ws_asg ?_))
  | `(tactic| walk_at "c") => `(tactic| first
  | ((with_reducible refine gCK "_law_at" ?_); refine we_cl "_law_at" ?_)
  | ((with_reducible refine gCK "_law_spots" ?_); refine we_cl "_law_spots" ?_))
  | `(tactic| walk_at "tg") => `(tactic| first
  | exact Tg.one (i := 3) rfl rfl)
theorem fn_lbookR {f : Addr} {fd : FuncData} (d_at : FD P w K mg base 3 "_law_at" 2 TAtP) (d_spots : FD P w K mg base 2 "_law_spots" 3 TSpots) (Fn : L2.Fun K "_law_book" "_law_book" st_l_book f fd) :
    FnOk P w K mg base (L2.CX P w) 4 f fd ["_law_purse_here", "_law_row_here_here", "_law_most"] (spG K TBookR) := by
  refine fn_ok Fn sc_l_book rfl TBookR_len ?_
  intro cdv A outer s H E N hr ds M Q X' h
  obtain ⟨b, own, sh, reach, m, rfl, ok, hm, k, L, hM, n, hL, hn, q⟩ := h
  have s0 := ok.s0
  have s1 := ok.s1
  have r0 := ok.r0
  show WB _ _ _ [some _, some (rowD own sh reach), some _, none] _ _
  refine wb_one (ws_ret ?_)
  refine we_froz 0 (we_lcM (fBk own sh) N (by walk_at "tg") (by walk_at "ok") (wi_list ?_))
  walk_at "g"
  refine ⟨b, own, sh, reach, m, rfl, ok, hm, cl_k hM ⟨n, hL, by omega, fun ns L1 hp hl hb hL1 => ?_⟩⟩
  refine ⟨_, .l, by rw [List.length_map, sizeLine_eq]; omega, fun _ _ => .l, ?_, ?_⟩
  · intro j d' acc p hd
    obtain ⟨y, hy, rfl⟩ := List.mem_map.mp (List.mem_of_getElem? hd)
    have yb := hb y hy
    refine ⟨_, rfl, fun B => ?_⟩
    walk_at "g"
    refine ⟨own, sh, reach, y, rfl, ok, by omega, ?_⟩
    walk_at "g"
    exact ⟨rfl, rfl⟩
  · intro p
    refine ⟨p, _, rfl, rfl, ?_⟩
    rw [bk_D]
    exact q ns L1 (poss_of ok hp (by omega) hb) hl hb hL1
end
/-! FoL -/
set_option exponentiation.threshold 100000
def natD (qs : List Nat) : List D := qs.map fun q => D.int (q : Nat)
theorem natD_len (qs : List Nat) : (natD qs).length = qs.length := List.length_map ..
theorem natD_app (a b : List Nat) : natD a ++ natD b = natD (a ++ b) := by unfold natD; rw [List.map_append]
theorem erase_mapG {α β : Type} (f : α → β) : ∀ (l : List α) (i : Nat), (l.map f).eraseIdx i = (l.eraseIdx i).map f
  | [], _ => rfl
  | _ :: _, 0 => rfl
  | a :: l, i + 1 => by show f a :: (l.map f).eraseIdx i = f a :: (l.eraseIdx i).map f; rw [erase_mapG f l i]
theorem erase_permG {α : Type} : ∀ {l : List α} {i : Nat} (h : i < l.length), (l[i] :: l.eraseIdx i).Perm l
  | [], _, h => by simp at h
  | a :: l, 0, _ => List.Perm.refl _
  | a :: l, i + 1, h => by
    show (l[i]'(by simpa using h) :: a :: l.eraseIdx i).Perm (a :: l)
    exact (List.Perm.swap _ _ _).trans ((erase_permG (l := l) (i := i) (by simpa using h)).cons a)
theorem take_oneG {α : Type} {fr lf : List α} {i : Nat} (hi : i < lf.length) : ((fr ++ [lf[i]]) ++ lf.eraseIdx i).Perm (fr ++ lf) := by
  rw [List.append_assoc]
  exact (erase_permG hi).append_left fr
theorem set_same {α : Type} {M : List α} {k : Nat} {x : α} (h : M[k]? = some x) : M.set k x = M := by
  obtain ⟨hk, e⟩ := List.getElem?_eq_some_iff.mp h
  rw [← e]
  exact List.set_getElem_self hk
theorem range_D (n : Nat) : rangeD 0 n = natD (List.range n) := by
  unfold rangeD natD
  refine List.map_congr_left fun i _ => ?_
  show D.int (0 + (i : Int)) = _
  rw [Int.zero_add]
theorem PlOk.pick {xs : List (Int × Int)} {ps : List Int} {ns : List Nat} (h : PlOk xs ps) (hp : ns.Perm (List.range ps.length)) : PlOk xs (PW.pick ns ps) := by
  have pp := pick_perm hp
  exact ⟨by rw [pp.length_eq]; exact h.1, by rw [pp.length_eq]; exact h.2.1, fun p hp => h.2.2.1 p (pp.mem_iff.mp hp), ((pp.append_right _).nodup_iff).mpr h.2.2.2⟩
theorem size_perm {xs : List (Int × Int)} {ps qs : List Int} (h : ps.Perm qs) : sizeF xs ps = sizeF xs qs := lcm_steps_perm h
theorem SzOk.pick {xs : List (Int × Int)} {ps : List Int} {ns : List Nat} {W : Int} (h : SzOk xs ps W) (hp : ns.Perm (List.range ps.length)) : SzOk xs (PW.pick ns ps) W := by
  have e := size_perm (xs := xs) (pick_perm hp)
  exact ⟨h.poss, h.pl.pick hp, h.one, by rw [e]; exact h.dv, by rw [e]; exact h.le⟩
theorem IsSum.uniq {xs : List (Int × Int)} {ps ws qs us : List Int} {T m T' m' : Int} (h : IsSum xs ps ws T m) (g : IsSum xs qs us T' m') (e : ∀ z : Int, (∃ u : List Int, u.length = ps.length ∧ Fits (xs ++ ps.zip u) ∧ dotF ws u = z) ↔ ∃ u : List Int, u.length = qs.length ∧ Fits (xs ++ qs.zip u) ∧ dotF us u = z) : T = T' ∧ m = m' := by
  obtain ⟨m0, hT, hz⟩ := h
  obtain ⟨m0', hT', hz'⟩ := g
  have k : ∀ z : Int, m ∣ z - T ↔ m' ∣ z - T' := fun z => ((hz z).symm.trans (e z)).trans (hz' z)
  have a := (k T).mp (by rw [Int.sub_self]; exact Int.dvd_zero _)
  have b := (k T').mpr (by rw [Int.sub_self]; exact Int.dvd_zero _)
  have c := (k (T + m)).mp (by rw [show T + m - T = m by omega]; exact Int.dvd_refl _)
  have d := (k (T' + m')).mpr (by rw [show T' + m' - T' = m' by omega]; exact Int.dvd_refl _)
  have c2 : m' ∣ m := by
    have := Int.dvd_sub c a
    rwa [show T + m - T' - (T - T') = m by omega] at this
  have d2 : m ∣ m' := by
    have := Int.dvd_sub d b
    rwa [show T' + m' - T - (T' - T) = m' by omega] at this
  have em : m = m' := Int.dvd_antisymm m0 m0' d2 c2
  subst em
  refine ⟨?_, rfl⟩
  rcases Int.lt_or_eq_of_le m0 with h | h
  · obtain ⟨x0, x1⟩ := hT h
    obtain ⟨y0, y1⟩ := hT' h
    have e1 := Int.emod_emod_of_dvd T (Int.dvd_refl m)
    have := Int.emod_eq_emod_iff_emod_sub_eq_zero.mpr (Int.emod_eq_zero_of_dvd a)
    rwa [Int.emod_eq_of_lt x0 x1, Int.emod_eq_of_lt y0 y1] at this
  · rw [← h, Int.zero_dvd] at a
    omega
theorem cpw_of {i : Int} (h0 : 0 ≤ i) (h1 : i ≤ 100) : CPw 10 i := ⟨h0, by
  have := intBits_le (i := 10) (n := 4) (by decide)
  have : (Builtin.Int.intBits 10 : Int) * i ≤ 4 * i := Int.mul_le_mul_of_nonneg_right (by omega) h0
  omega⟩
theorem ClsArg.at {M : Cells} {d : D} {xs : List (Int × Int)} {pl X : Int} {Q : D → Cells → Prop} {E : Ex → Cells → Prop} (h : ClsArg M d xs pl X) (k : ∀ r m, IsCls xs pl X r m → Q (.tup [.int r, .int m]) M) : TClsAt [d, .int pl] M Q E :=
  ⟨h.by k, d, xs, pl, rfl, h.lv, h.ps⟩
theorem poss_arg {xs : List (Int × Int)} {M : Cells} {d : D} {pl X : Int} (hp : PossOk xs) (hpl : pl.natAbs ≤ 2 ^ 110) (hX : ∀ x ∈ xs, (pl - x.1) ∣ (X - x.2)) (hl : LV M d (bookD xs)) : ClsArg M d xs pl X := ⟨hl, hp, hp.1.1, bnd_of hp, hpl, hX⟩
/-- what stands for a place not told: less than the modulus -/
theorem cls_new {xs : List (Int × Int)} {pl X r m : Int} (h : IsCls xs pl X r m) (hn : NewPl xs pl) : IsL (xs.map fun x => pl - x.1) m ∧ r = X % m := by
  rcases h with ⟨⟨x, hx, e⟩, _⟩ | ⟨_, a, b⟩
  · exact absurd e (hn x hx)
  · exact ⟨a, b⟩
theorem sorted_ok {xs zs : List (Int × Int)} {p v : Int} (hp : PossOk xs) (hl : xs.length < 24) (hn : NewPl xs p) (sp : Small p) (sv : Small v) (hv : ∀ x ∈ xs, (p - x.1) ∣ (v - x.2)) (pm : zs.Perm (xs ++ [(p, v)])) (srt : zs.Pairwise LexLe) : PossOk zs := by
  have mem : ∀ x, x ∈ zs ↔ x ∈ xs ++ [(p, v)] := fun x => pm.mem_iff
  have f : Fits (xs ++ [(p, v)]) := fits_snoc hp.2 hv
  refine ⟨⟨?_, fun x hx => ?_, ?_⟩, fun x hx y hy => f x ((mem x).mp hx) y ((mem y).mp hy)⟩
  · rw [pm.length_eq, List.length_append]; show xs.length + 1 ≤ 24; omega
  · rcases List.mem_append.mp ((mem x).mp hx) with g | g
    · exact hp.1.2.1 x g
    · rw [List.mem_singleton.mp g]; exact ⟨sp, sv⟩
  · have nd : (zs.map Prod.fst).Nodup := by
      refine (List.Perm.nodup_iff (pm.map Prod.fst)).mpr ?_
      rw [List.map_append]
      refine List.nodup_append.mpr ⟨List.Pairwise.imp (fun h => Int.ne_of_lt h) hp.1.2.2, by simp, fun a ha c hc e => ?_⟩
      obtain ⟨x, hx, rfl⟩ := List.mem_map.mp ha
      rw [List.map_singleton, List.mem_singleton] at hc
      exact hn x hx (e.trans hc)
    rw [List.Nodup, List.pairwise_map] at nd
    rw [List.pairwise_map]
    refine (srt.and nd).imp fun {a b} h => ?_
    rcases h.1 with g | g
    · exact g
    · exact absurd g.1 h.2
theorem told_step {xs zs : List (Int × Int)} {ps : List Int} {k : Nat} {X r L : Int} (h : IsCls zs (ps.getD k 0) X r L) (n : NewPl zs (ps.getD k 0)) (e : ∀ o, o ∈ zs.map Prod.fst ↔ o ∈ othF xs ps k) : L = stepF xs ps k ∧ 0 < L ∧ r = X % L := by
  obtain ⟨hL, hr⟩ := cls_new h n
  refine ⟨?_, hL.1, hr⟩
  rw [lcmF_of hL]
  have := stepT_congr e (ps.getD k 0)
  unfold stepT at this
  rw [List.map_map] at this
  exact this
/-! FoA -/
set_option exponentiation.threshold 100000
def TMixed : TSp := fun ds M Q _ => ∃ (b : Addr) (n : Nat), ds = [.cel b, .int (n : Nat)] ∧ n ≤ 8 ∧ CL M b fun L f => ∃ k, StoreL k L ∧ k ≤ 900000 ∧ ∀ ns L', ns.Perm (List.range n) → StoreL (k + 10) L' → Q (.lst (natD ns)) (f L')
theorem TMixed_mono : Mono TMixed := fun ds M Q Q' E E' h _ ⟨b, n, h1, h2, h3⟩ => ⟨b, n, h1, h2, h3.imp fun L f ⟨k, g1, g2, g3⟩ => ⟨k, g1, g2, fun ns L' a c => h _ _ (g3 ns L' a c)⟩⟩
theorem TMixed_len : ∀ ds M Q E, TMixed ds M Q E → ds.length = 2 := fun ds M Q E h => by obtain ⟨_, _, rfl, _⟩ := h; rfl
section
variable {P : Program} {w : World} {K : PySem.W.Frag} {mg : Str → Option Value} {base : Heap}
local macro_rules
  | `(tactic| walk_at "ok") => `(tactic| first
  | ((show BlkOk N_l_mixed (defScope st_l_mixed) _ _); exact blkOk_by (by decide +kernel)))
  | `(tactic| walk_at "tG") => `(tactic| first
  | ((with_reducible refine gG "_law_left" ?_); refine wg_nm 2 ?_)
  | ((with_reducible refine gG "_law_found" ?_); refine wg_nm 3 ?_)
  | ((with_reducible refine gG "_law_turn" ?_); refine wg_nm 4 ?_))
  | `(tactic| walk_at "eWECall") => `(tactic| first
  | ((with_reducible refine gC "list" ?_); refine we_list rfl (by assumption) ?_)
  | ((with_reducible show WE _ _ (Expr.Call (Expr.Attribute _ "append" _) _ _ _) _ _ _); refine we_append ?_)
  | ((with_reducible show WE _ _ (Expr.Call (Expr.Name _ _) _ _ _) _ _ _); walk_at "c")
  | ((with_reducible refine gC "len" ?_); refine we_len rfl (by assumption) ?_))
  | `(tactic| walk_at "n") => `(tactic| first
  | ((with_reducible refine gN "_law_size_here" ?_); refine we_nm 1 rfl rfl ?_)
  | ((with_reducible refine gN "_law_left" ?_); refine we_nm 2 rfl rfl ?_)
  | ((with_reducible refine gN "_law_found" ?_); refine we_nm 3 rfl rfl ?_)
  | ((with_reducible refine gN "_law_purse_here" ?_); refine we_nm 0 rfl rfl ?_)
  | ((with_reducible show WE _ _ (Expr.Name "list" _) _ _ _); refine we_bltn (v := .ty "list") rfl (by assumption) (by decide +kernel) rfl ?_))
  | `(tactic| walk_at "t") => `(tactic| first
  | ((with_reducible show WG _ _ (Expr.Name _ _) _ _ _ _); walk_at "tG")
  | ((with_reducible show WS _ _ (Stmt.Assign [Expr.Tuple [Expr.Name "_law_left" _, Expr.Name "_law_found" _] _ _] (Expr.Tuple _ _ _) _) _ _ _); first | refine ws_par (i := 2) (j := 3) (by assumption) rfl rfl (by decide) rfl rfl rfl ?_ | refine ws_asg ?_)
  | ((with_reducible show WS _ _ (Stmt.Assign [Expr.Tuple _ _ _] _ _) _ _ _); refine ws_asg ?_))
  | `(tactic| walk_at "c") => `(tactic| first
  | ((with_reducible refine gCK "_law_toss" ?_); refine we_cl "_law_toss" ?_))
theorem fn_lmixed {f : Addr} {fd : FuncData} (b_len : mg "len" = none) (b_list : mg "list" = none) (b_range : mg "range" = none) (d_toss : FD P w K mg base 1 "_law_toss" 2 TToss) (Fn : L2.Fun K "_law_mixed" "_law_mixed" st_l_mixed f fd) :
    FnOk P w K mg base (L2.CX P w) 2 f fd ["_law_purse_here", "_law_size_here"] (spG K TMixed) := by
  refine fn_ok Fn sc_l_mixed rfl TMixed_len ?_
  intro cdv A outer s H E N hr ds M Q X' h
  obtain ⟨b, n, rfl, hn8, k, L0, hM, nn, hL0, hnn, q⟩ := h
  show WB _ _ _ [some (.cel b), some (.int (n : Nat)), none, none, none] _ _
  refine wb_cons ?_
  walk_at "t"
  refine wa_cons (we_listRg1C N rfl (by assumption) rfl (by assumption) ?_)
  walk_at "g"
  refine ⟨RgOk.of_le (by omega) (by omega) (by omega) (by omega), fun l => ?_⟩
  rw [show ((n : Nat) : Int).toNat = n from rfl, range_D]
  refine wa_cons (we_lstC ?_)
  walk_at "g"
  intro p
  walk_at "g"
  refine ⟨_, _, rfl, ?_⟩
  refine wb_cons ?_
  refine ws_for N (wi_range1 rfl (by assumption) ?_)
  walk_at "g"
  refine ⟨by omega, by omega, fun j δ' M' => ∃ (x4 : Option D) (fr lf : List Nat) (L' : List D), δ' = [some (.cel b), some (.int (n : Nat)), some (.cel l), some (.cel p), x4] ∧ M' = (p, .lst (natD fr)) :: (l, .lst (natD lf)) :: M.set k (b, .lst L') ∧ fr.length = j ∧ lf.length + j = n ∧ (fr ++ lf).Perm (List.range n) ∧ StoreL (nn + j) L', ?_, fun _ _ _ _ _ => trivial, ?_, ?_⟩
  · exact ⟨none, [], List.range n, L0, rfl, by rw [set_same hM]; rfl, rfl, by rw [List.length_range]; omega, List.Perm.refl _, hL0⟩
  · rintro j d δ' M' hd ⟨x4, fr, lf, L', rfl, rfl, hfr, hlf, hpm, hL'⟩
    obtain ⟨hj, rfl⟩ := rangeD_inv hd
    have hj4 : j < n := by omega
    walk_at "g"
    refine we_popC ?_
    walk_at "g"
    refine ⟨l, rfl, cl_skip (cl_0 trivial), ?_⟩
    walk_at "g"
    rw [natD_len]
    refine ttoss (by omega) (by omega) (cl_skip (cl_skip (cl_set hM ⟨_, hL', by omega, fun r3 L4 h30 h31 hL4 => ?_⟩)))
    obtain ⟨i, rfl⟩ := Int.eq_ofNat_of_zero_le h30
    have hi : i < lf.length := by omega
    walk_at "g"
    refine ⟨i, .int (lf[i] : Nat), rfl, by unfold natD; rw [List.getElem?_map, List.getElem?_eq_getElem hi]; rfl, by omega, ?_⟩
    rw [show (natD lf).eraseIdx i = natD (lf.eraseIdx i) from erase_mapG _ lf i]
    walk_at "g"
    refine ⟨by rw [natD_len, sizeLine_eq]; omega, ?_⟩
    have pm := take_oneG (fr := fr) hi
    refine ⟨_, fr ++ [lf[i]], lf.eraseIdx i, L4, rfl, ?_, by rw [List.length_append, hfr]; rfl, by rw [List.length_eraseIdx_of_lt hi]; omega, pm.trans hpm, hL4⟩
    rw [← natD_app]
    rfl
  rintro δ' M' ⟨x4, fr, lf, L', rfl, rfl, hfr, hlf, hpm, hL'⟩
  rw [rangeD_len] at hfr hlf hL'
  have lf0 : lf = [] := List.eq_nil_of_length_eq_zero (by have : ((n : Nat) : Int).toNat = n := rfl; omega)
  subst lf0
  rw [List.append_nil] at hpm
  refine wb_one (ws_ret (WE.few ?_))
  refine we_froz 0 ?_
  walk_at "g"
  exact ⟨p, _, rfl, rfl, M.set k (b, Cell.lst L'), List.sublist_cons_self _ _, q fr L' hpm (hL'.up (by have : ((n : Nat) : Int).toNat = n := rfl; omega))⟩
end
def TProd : TSp := fun ds M Q _ => ∃ (d : D) (ss : List Int), ds = [d] ∧ LV M d (ss.map D.int) ∧ ss.length ≤ 8 ∧ (∀ s ∈ ss, s.natAbs ≤ 2 ^ 3264) ∧ Q (.int (prodF ss)) M
theorem TProd_mono : Mono TProd := fun ds M Q Q' E E' h _ ⟨d, ss, h1, h2, h3, h4, h5⟩ => ⟨d, ss, h1, h2, h3, h4, h _ _ h5⟩
theorem TProd_len : ∀ ds M Q E, TProd ds M Q E → ds.length = 1 := fun ds M Q E h => by obtain ⟨_, _, rfl, _⟩ := h; rfl
theorem prod_bits {ss : List Int} (h : ∀ s ∈ ss, s.natAbs ≤ 2 ^ 3264) : (prodF ss).natAbs ≤ 2 ^ (3264 * ss.length) := by
  induction ss with
  | nil => show (1 : Int).natAbs ≤ 1; decide
  | cons s ss ih =>
    rw [prodF_cons, Int.natAbs_mul, List.length_cons, Nat.mul_add, Nat.pow_add, Nat.mul_comm]
    exact Nat.mul_le_mul (ih fun t ht => h t (List.mem_cons_of_mem _ ht)) (h s List.mem_cons_self)
section
variable {P : Program} {w : World} {K : PySem.W.Frag} {mg : Str → Option Value} {base : Heap}
local macro_rules
  | `(tactic| walk_at "ok") => `(tactic| first
  | ((show BlkOk N_l_product (defScope st_l_product) _ _); exact blkOk_by (by decide +kernel)))
  | `(tactic| walk_at "tS") => `(tactic| first
  | ((with_reducible refine gS "_law_found" ?_); refine ws_st 1 ?_))
  | `(tactic| walk_at "tG") => `(tactic| first
  | ((with_reducible refine gG "_law_factor" ?_); refine wg_nm 2 ?_))
  | `(tactic| walk_at "n") => `(tactic| first
  | ((with_reducible refine gN "_law_found" ?_); refine we_nm 1 rfl rfl ?_)
  | ((with_reducible refine gN "_law_some" ?_); refine we_nm 0 rfl rfl ?_)
  | ((with_reducible refine gN "_law_factor" ?_); refine we_nm 2 rfl rfl ?_))
  | `(tactic| walk_at "t") => `(tactic| first
  | ((with_reducible show WS _ _ (Stmt.Assign [Expr.Name _ _] _ _) _ _ _); walk_at "tS")
  | ((with_reducible show WG _ _ (Expr.Name _ _) _ _ _ _); walk_at "tG")
  | ((with_reducible show WS _ _ (Stmt.Assign [Expr.Tuple _ _ _] _ _) _ _ _); refine ws_asg ?_))
theorem fn_lproduct {f : Addr} {fd : FuncData} (Fn : L2.Fun K "_law_product" "_law_product" st_l_product f fd) :
    FnOk P w K mg base (L2.CX P w) 1 f fd ["_law_some"] (spG K TProd) := by
  refine fn_ok Fn sc_l_product rfl TProd_len ?_
  intro cdv A outer s H E N hr ds M Q X' h
  obtain ⟨d, ss, rfl, hl, h8, hb, q⟩ := h
  show WB _ _ _ [some d, none, none] _ _
  refine wb_cons ?_
  walk_at "g"
  refine ws_for N (wi_list ?_)
  walk_at "g"
  refine ⟨_, hl, fun j δ' M' => ∃ (x2 : Option D), δ' = [some d, some (.int (prodF (ss.take j))), x2] ∧ M' = M, ?_, ?_, ?_, ?_⟩
  · exact ⟨none, rfl, rfl⟩
  · rintro j δ' M' _ ⟨x2, rfl, rfl⟩
    exact hl
  · rintro j d1 δ' M' hd ⟨x2, rfl, rfl⟩
    obtain ⟨y, hy, rfl⟩ : ∃ y, ss[j]? = some y ∧ d1 = .int y := by
      rw [List.getElem?_map] at hd
      cases e1 : ss[j]? with
      | none => rw [e1] at hd; cases hd
      | some y => rw [e1] at hd; exact ⟨y, rfl, (Option.some.inj hd).symm⟩
    have ym := List.mem_of_getElem? hy
    have tb := prod_bits (ss := ss.take j) fun s hs => hb s (List.mem_of_mem_take hs)
    have tl : (ss.take j).length ≤ 8 := by rw [List.length_take]; omega
    have tb2 : (prodF (ss.take j)).natAbs ≤ 2 ^ 30000 := Nat.le_trans tb (Nat.pow_le_pow_right (by decide) (by omega))
    have te : prodF (ss.take (j + 1)) = prodF (ss.take j) * y := by
      rw [List.take_add_one, hy]
      exact prodF_snoc _ _
    walk_at "g"
    all_goals first
      | exact IntMulOk.of_bits (bits_of tb2 (by decide)) (bits_of (hb y ym) (by decide))
      | exact ⟨some (.int y), by rw [te]; rfl, rfl⟩
      | skip
  · rintro δ' M' ⟨x2, rfl, rfl⟩
    rw [List.length_map, List.take_length]
    walk_at "g"
    exact q
end
def TTri : TSp := fun ds M Q _ => ∃ (d e : D) (xs : List (Int × Int)) (ps : List Int), ds = [d, e] ∧ LV M d (bookD xs) ∧ LV M e (ps.map D.int) ∧ PossOk xs ∧ PlOk xs ps ∧ ∀ p, Q (.cel p) ((p, .lst (linesD xs ps ps.length)) :: M)
theorem TTri_mono : Mono TTri := fun ds M Q Q' E E' h _ ⟨d, e, xs, ps, h1, h2, h3, h4, h5, h6⟩ => ⟨d, e, xs, ps, h1, h2, h3, h4, h5, fun p => h _ _ (h6 p)⟩
theorem TTri_len : ∀ ds M Q E, TTri ds M Q E → ds.length = 2 := fun ds M Q E h => by obtain ⟨_, _, _, _, rfl, _⟩ := h; rfl
section
variable {P : Program} {w : World} {K : PySem.W.Frag} {mg : Str → Option Value} {base : Heap}
local macro_rules
  | `(tactic| walk_at "ok") => `(tactic| first
  | ((show BlkOk N_triangle (defScope st_triangle) _ _); exact blkOk_by (by decide +kernel)))
  | `(tactic| walk_at "eWECall") => `(tactic| first
  | ((with_reducible show WE _ _ (Expr.Call (Expr.Name _ _) _ _ _) _ _ _); walk_at "c"))
  | `(tactic| walk_at "n") => `(tactic| first
  | ((with_reducible refine gN "book" ?_); refine we_nm 0 rfl rfl ?_)
  | ((with_reducible refine gN "places" ?_); refine we_nm 1 rfl rfl ?_))
  | `(tactic| walk_at "t") => `(tactic| first
  | ((with_reducible show WS _ _ (Stmt.Assign [Expr.Tuple _ _ _] _ _) _ _ _); refine ws_asg ?_))
  | `(tactic| walk_at "c") => `(tactic| first
  | ((with_reducible refine gCK "need_open" ?_); refine we_cl "need_open" ?_)
  | ((with_reducible refine gCK "need_fitting" ?_); refine we_cl "need_fitting" ?_)
  | ((with_reducible refine gCK "vectors_in" ?_); refine we_cl "vectors_in" ?_))
theorem fn_triangle {f : Addr} {fd : FuncData} (d_fit : FD P w K mg base 5 "need_fitting" 1 TPoss) (d_open : FD P w K mg base 6 "need_open" 2 TOpen) (d_vec : FD P w K mg base 4 "vectors_in" 2 TVecs) (Fn : L2.Fun K "triangle" "triangle" st_triangle f fd) :
    FnOk P w K mg base (L2.CX P w) 7 f fd ["book", "places"] (spG K TTri) := by
  refine fn_ok Fn sc_triangle rfl TTri_len ?_
  intro cdv A outer s H E N hr ds M Q X' h
  obtain ⟨d, e, xs, ps, rfl, hl, hl2, hb, hp, q⟩ := h
  show WB _ _ _ [some _, some _] _ _
  refine wb_cons ?_
  walk_at "g"
  refine ⟨d, e, xs, ps, rfl, hl, hl2, hb.1, hp, ?_⟩
  walk_at "g"
  refine ⟨d, xs, rfl, hl, hb, ?_⟩
  walk_at "g"
  exact ⟨d, e, xs, ps, rfl, hl, hl2, hb, hp, q⟩
end
/-! FoB -/
set_option exponentiation.threshold 100000
def TTold1 : TSp := fun ds M Q _ => ∃ (d e g : D) (xs : List (Int × Int)) (ps vs : List Int) (W : Int), ds = [d, e, g] ∧ LV M d (bookD xs) ∧ LV M e (ps.map D.int) ∧ LV M g (vs.map D.int) ∧ PossOk xs ∧ PlOk xs ps ∧ xs.length ≤ 12 ∧ Good xs ps W vs ∧ vs.length = ps.length ∧ Q (.bl true) M
theorem TTold1_mono : Mono TTold1 := fun ds M Q Q' E E' h _ ⟨d, e, g, xs, ps, vs, W, h1, h2, h3, h4, h5, h6, h7, h8, h9, h10⟩ => ⟨d, e, g, xs, ps, vs, W, h1, h2, h3, h4, h5, h6, h7, h8, h9, h _ _ h10⟩
theorem TTold1_len : ∀ ds M Q E, TTold1 ds M Q E → ds.length = 3 := fun ds M Q E h => by obtain ⟨_, _, _, _, _, _, _, rfl, _⟩ := h; rfl
section
variable {P : Program} {w : World} {K : PySem.W.Frag} {mg : Str → Option Value} {base : Heap}
local macro_rules
  | `(tactic| walk_at "ok") => `(tactic| first
  | ((show BlkOk N_l_told_right (defScope st_l_told_right) _ _); exact blkOk_by (by decide +kernel)))
  | `(tactic| walk_at "tS") => `(tactic| first
  | ((with_reducible refine gS "_law_found" ?_); refine ws_st 3 ?_))
  | `(tactic| walk_at "tG") => `(tactic| first
  | ((with_reducible refine gG "_law_found" ?_); refine wg_nm 3 ?_)
  | ((with_reducible refine gG "_law_steps_here" ?_); refine wg_nm 4 ?_)
  | ((with_reducible refine gG "_law_spot" ?_); refine wg_nm 5 ?_)
  | ((with_reducible refine gG "_law_val" ?_); refine wg_nm 6 ?_)
  | ((with_reducible refine gG "_law_step" ?_); refine wg_nm 7 ?_)
  | ((with_reducible refine gG "_law_rest" ?_); refine wg_nm 8 ?_)
  | ((with_reducible refine gG "_law_ring" ?_); refine wg_nm 9 ?_))
  | `(tactic| walk_at "eWECall") => `(tactic| first
  | ((with_reducible refine gC "list" ?_); refine we_list rfl (by assumption) ?_)
  | ((with_reducible show WE _ _ (Expr.Call (Expr.Name _ _) _ _ _) _ _ _); walk_at "c")
  | ((with_reducible refine gC "abs" ?_); refine we_abs rfl (by assumption) ?_)
  | ((with_reducible refine gC "int" ?_); refine we_int2 rfl (by assumption) ?_))
  | `(tactic| walk_at "n") => `(tactic| first
  | ((with_reducible refine gN "_law_found" ?_); refine we_nm 3 rfl rfl ?_)
  | ((with_reducible refine gN "_law_val" ?_); refine we_nm 6 rfl rfl ?_)
  | ((with_reducible refine gN "_law_spot" ?_); refine we_nm 5 rfl rfl ?_)
  | ((with_reducible refine gN "_law_book_here" ?_); refine we_nm 0 rfl rfl ?_)
  | ((with_reducible refine gN "_law_fresh" ?_); refine we_nm 1 rfl rfl ?_)
  | ((with_reducible refine gN "_law_ring" ?_); refine we_nm 9 rfl rfl ?_)
  | ((with_reducible refine gN "_law_told" ?_); refine we_nm 2 rfl rfl ?_)
  | ((with_reducible refine gN "_law_steps_here" ?_); refine we_nm 4 rfl rfl ?_)
  | ((with_reducible refine gN "_law_step" ?_); refine we_nm 7 rfl rfl ?_)
  | ((with_reducible refine gN "_law_rest" ?_); refine we_nm 8 rfl rfl ?_)
  | ((with_reducible show WE _ _ (Expr.Name "int" _) _ _ _); refine we_bltn (v := .ty "int") rfl (by assumption) (by decide +kernel) rfl ?_)
  | ((with_reducible show WE _ _ (Expr.Name "list" _) _ _ _); refine we_bltn (v := .ty "list") rfl (by assumption) (by decide +kernel) rfl ?_))
  | `(tactic| walk_at "t") => `(tactic| first
  | ((with_reducible show WS _ _ (Stmt.Assign [Expr.Name _ _] _ _) _ _ _); walk_at "tS")
  | ((with_reducible show WG _ _ (Expr.Name _ _) _ _ _ _); walk_at "tG")
  | ((with_reducible show WS _ _ (Stmt.Assign [Expr.Tuple [Expr.Name "_law_found" _, Expr.Name "_law_steps_here" _] _ _] (Expr.Tuple _ _ _) _) _ _ _); first | refine ws_par (i := 3) (j := 4) (by assumption) rfl rfl (by decide) rfl rfl rfl ?_ | refine ws_asg ?_)
  | ((with_reducible show WS _ _ (Stmt.Assign [Expr.Tuple _ _ _] _ _) _ _ _); refine ws_asg ?_))
  | `(tactic| walk_at "c") => `(tactic| first
  | ((with_reducible refine gCK "class_at" ?_); refine we_cl "class_at" ?_)
  | ((with_reducible refine gCK "step_list" ?_); refine we_cl "step_list" ?_)
  | ((with_reducible refine gCK "conflict_of" ?_); refine we_cl "conflict_of" ?_))
theorem fn_ltold {f : Addr} {fd : FuncData} (b_abs : mg "abs" = none) (b_int : mg "int" = none) (b_list : mg "list" = none) (b_sorted : mg "sorted" = none) (b_zip : mg "zip" = none) (d_steps : FD P w K mg base 7 "step_list" 2 TStepLF) (d_at : FD P w K mg base 7 "class_at" 2 TClsAt) (d_of : FD P w K mg base 6 "conflict_of" 1 TConfOf) (Fn : L2.Fun K "_law_told_right" "_law_told_right" st_l_told_right f fd) :
    FnOk P w K mg base (L2.CX P w) 8 f fd ["_law_book_here", "_law_fresh", "_law_told"] (spG K TTold1) := by
  refine fn_ok Fn sc_l_told_right rfl TTold1_len ?_
  intro cdv A outer s H E N hr ds M Q X' h
  obtain ⟨d, e, g, xs, ps, vs, W, rfl, hl, hl2, hl3, hp, pl, x12, G, hv, q⟩ := h
  have p8 := pl.2.1
  show WB _ _ _ [some d, some e, some g, none, none, none, none, none, none, none] _ _
  refine wb_cons ?_
  walk_at "g"
  refine ⟨_, _, rfl, .inl hl, ?_⟩
  walk_at "g"
  refine ⟨d, e, xs, ps, rfl, hl, hl2, hp, pl, ?_⟩
  walk_at "g"
  refine ⟨_, _, rfl, ?_⟩
  refine wb_cons ?_
  refine ws_for N (wi_zip3 rfl (by assumption) ?_)
  walk_at "g"
  refine ⟨_, _, _, _, _, _, rfl, hl2, hl3, .l, fun j δ' M' => ∃ (zs : List (Int × Int)) (x5 x6 x7 x8 x9 : Option D), δ' = [some d, some e, some g, some (.lst (bookD zs)), some (.lst ((stepsF xs ps).map D.int)), x5, x6, x7, x8, x9] ∧ M' = M ∧ PossOk zs ∧ zs.length = xs.length + j ∧ ∀ x, x ∈ zs ↔ x ∈ xs ++ ps.zip (vs.take j), ?_, ?_, ?_, ?_⟩
  · exact ⟨xs, none, none, none, none, none, rfl, rfl, hp, rfl, fun x => by rw [List.take_zero, List.zip_nil_right, List.append_nil]⟩
  · rintro j δ' M' _ ⟨zs, x5, x6, x7, x8, x9, rfl, rfl, _⟩
    exact ⟨hl2, hl3, .l⟩
  · rintro j dd δ' M' hd ⟨zs, x5, x6, x7, x8, x9, rfl, rfl, zp, zl, zmem⟩
    obtain ⟨a1, a2, a3, ha1, ha2, ha3, rfl⟩ := zip3D_inv hd
    have hj : j < ps.length := by have := (List.getElem?_eq_some_iff.mp ha1).1; rwa [List.length_map] at this
    obtain rfl : a1 = .int (ps.getD j 0) := by rw [List.getElem?_map, List.getElem?_eq_getElem hj] at ha1; rw [List.getD_eq_getElem?_getD, List.getElem?_eq_getElem hj]; exact (Option.some.inj ha1).symm
    have hjv : j < vs.length := by omega
    obtain rfl : a2 = .int (vs.getD j 0) := by rw [List.getElem?_map, List.getElem?_eq_getElem hjv] at ha2; rw [List.getD_eq_getElem?_getD, List.getElem?_eq_getElem hjv]; exact (Option.some.inj ha2).symm
    have hjs : j < (stepsF xs ps).length := by rw [steps_len]; exact hj
    obtain rfl : a3 = .int (stepF xs ps j) := by rw [List.getElem?_map, List.getElem?_eq_getElem hjs, steps_get] at ha3; exact (Option.some.inj ha3).symm
    have sp : Small (ps.getD j 0) := by rw [List.getD_eq_getElem?_getD, List.getElem?_eq_getElem hj]; exact pl.2.2.1 _ (List.getElem_mem hj)
    have spb : (ps.getD j 0).natAbs ≤ 2 ^ 110 := by unfold Small at sp; omega
    have sub : ∀ x ∈ zs, x ∈ xs ++ ps.zip vs := fun x hx => by
      rcases List.mem_append.mp ((zmem x).mp hx) with h | h
      · exact List.mem_append_left _ h
      · rw [zipTake] at h
        exact List.mem_append_right _ (List.mem_of_mem_take h)
    have own : (ps.getD j 0, vs.getD j 0) ∈ xs ++ ps.zip vs := List.mem_append_right _ (zip_get2 hj hjv)
    have hX : ∀ x ∈ zs, (ps.getD j 0 - x.1) ∣ (vs.getD j 0 - x.2) := fun x hx => G.fit _ own x (sub x hx)
    have fsts : ∀ o, o ∈ zs.map Prod.fst ↔ o ∈ othF xs ps j := fun o => by
      unfold othF
      have tl : (vs.take j).length = j := by rw [List.length_take]; omega
      have zf : (ps.zip (vs.take j)).map Prod.fst = ps.take j := by
        rw [zipTake, ← takeZip]
        exact List.map_fst_zip (by rw [List.length_take]; omega)
      rw [← zf, ← List.map_append]
      constructor
      · intro h
        obtain ⟨x, hx, rfl⟩ := List.mem_map.mp h
        exact List.mem_map.mpr ⟨x, (zmem x).mp hx, rfl⟩
      · intro h
        obtain ⟨x, hx, rfl⟩ := List.mem_map.mp h
        exact List.mem_map.mpr ⟨x, (zmem x).mpr hx, rfl⟩
    have nw : NewPl zs (ps.getD j 0) := fun x hx => oth_ne pl.2.2.2 hj x.1 ((fsts x.1).mp (List.mem_map.mpr ⟨x, hx, rfl⟩))
    have zs1 : ps.zip (vs.take (j + 1)) = ps.zip (vs.take j) ++ [(ps.getD j 0, vs.getD j 0)] := by
      have gz : (ps.zip vs)[j]? = some (ps.getD j 0, vs.getD j 0) := List.getElem?_zip_eq_some.mpr ⟨by show ps[j]? = some (ps.getD j 0); rw [List.getD_eq_getElem?_getD, List.getElem?_eq_getElem hj]; rfl, by show vs[j]? = some (vs.getD j 0); rw [List.getD_eq_getElem?_getD, List.getElem?_eq_getElem hjv]; rfl⟩
      rw [zipTake, zipTake, List.take_add_one, gz]
      rfl
    generalize hpj : ps.getD j 0 = pj at *
    generalize hvj : vs.getD j 0 = vj at *
    show WG _ _ _ (D.tup [.int pj, .int vj, .int (stepF xs ps j)]) _ _ _
    walk_at "g"
    refine (poss_arg zp spb hX .l).at fun r L hc => ?_
    obtain ⟨eL, L0, hr⟩ := told_step (xs := xs) (ps := ps) (k := j) (by rw [hpj]; exact hc) (by rw [hpj]; exact nw) fsts
    walk_at "g"
    refine iteQ (by rw [decide_eq_true eL]; rfl) ?_
    walk_at "g"
    rotate_left 1
    · exact L0
    have dvr : (vj - r) % L = 0 := by
      rw [hr]
      have := Int.emod_add_mul_ediv vj L
      exact Int.emod_eq_zero_of_dvd ⟨vj / L, by omega⟩
    refine iteQ (by rw [dvr]; rfl) ?_
    walk_at "g"
    rotate_left 1
    · exact cpw_of (by decide) (by decide)
    have e30 : (10 : Int) ^ Int.toNat 30 = 10 ^ 30 := rfl
    rw [e30]
    by_cases big : (10 : Int) ^ 30 < if vj < 0 then -vj else vj
    · refine iteP (decide_eq_true big) ?_
      walk_at "g"
      exact q
    refine iteQ (decide_eq_false big) ?_
    have sv : Small vj := by unfold Small; split at big <;> omega
    walk_at "g"
    refine we_sortedP rfl (by assumption) ?_
    walk_at "g"
    refine we_lst ?_
    walk_at "g"
    refine .inr (.inr ⟨_, _, .l, .l, ?_, ?_⟩)
    · unfold bookD; rw [List.length_map, sizeLine_eq]; show _ + 1 ≤ _; omega
    rw [show bookD zs ++ [D.tup [D.int pj, D.int vj]] = (zs ++ [(pj, vj)]).map pD by rw [List.map_append]; rfl]
    refine ⟨_, .l, fun ys pm srt => ?_⟩
    rw [show ys.map pD = bookD ys from rfl]
    have yp := sorted_ok zp (by omega) nw sp sv hX pm srt
    have ymem : ∀ x, x ∈ ys ↔ x ∈ zs ++ [(pj, vj)] := fun x => pm.mem_iff
    have hvy : ∀ x ∈ ys, (pj - x.1) ∣ (vj - x.2) := fun x hx => by
      rcases List.mem_append.mp ((ymem x).mp hx) with h | h
      · exact hX x h
      · rw [List.mem_singleton.mp h, Int.sub_self, Int.sub_self]; exact Int.dvd_refl _
    walk_at "g"
    refine ⟨_, ys, rfl, .l, yp.1, ?_⟩
    rw [confs_nil.mpr yp.2]
    walk_at "g"
    refine nr_non (iteQ rfl ?_)
    walk_at "g"
    refine (poss_arg yp spb hvy .l).at fun r3 K3 hc3 => ?_
    obtain ⟨rfl, rfl⟩ : vj = r3 ∧ 0 = K3 := by
      rcases hc3 with ⟨_, a, b⟩ | ⟨a, _, _⟩
      · exact ⟨a.symm, b.symm⟩
      · exact absurd rfl (a _ ((ymem _).mpr (List.mem_append_right _ (List.mem_singleton_self _))))
    walk_at "g"
    refine pair_ne ?_
    walk_at "g"
    exact ⟨ys, _, _, _, _, _, rfl, rfl, yp, by rw [pm.length_eq, List.length_append, zl]; rfl, fun x => by rw [ymem, List.mem_append, zmem, zs1, ← List.append_assoc, ← List.mem_append]⟩
  · rintro δ' M' ⟨zs, x5, x6, x7, x8, x9, rfl, rfl, _⟩
    walk_at "g"
    exact q
end
/-! FoC -/
set_option exponentiation.threshold 100000
def fPick (l : List Int) : D → D
  | .int k => .int (l.getD k.toNat 0)
  | _ => .non
theorem pick_D (ns : List Nat) (l : List Int) : (natD ns).map (fPick l) = (pick ns l).map D.int := by
  unfold natD pick
  rw [List.map_map, List.map_map]
  rfl
def fMix (W : Int) : D → D
  | .tup [.int a, .int b, .int c] => .int ((a + 2 * b - c) % W)
  | _ => .non
theorem getD_int {l : List Int} {i : Nat} (h : i < l.length) : (l.map D.int).getD i .non = .int (l.getD i 0) := by
  rw [List.getD_eq_getElem?_getD, List.getElem?_map, List.getD_eq_getElem?_getD, List.getElem?_eq_getElem h]
  rfl
theorem mix_D {W : Int} {vs a c : List Int} (ha : a.length = vs.length) (hc : c.length = vs.length) : (zip3D (vs.map D.int) (a.map D.int) (c.map D.int)).map (fMix W) = (mixL W vs a c).map D.int := by
  unfold zip3D mixL
  rw [List.map_map, List.map_map, List.length_map, List.length_map, List.length_map, ha, hc, Nat.min_self, Nat.min_self]
  refine List.map_congr_left fun i hi => ?_
  have hi := List.mem_range.mp hi
  show fMix W (.tup [(vs.map D.int).getD i .non, (a.map D.int).getD i .non, (c.map D.int).getD i .non]) = _
  rw [getD_int hi, getD_int (by omega), getD_int (by omega)]
  rfl
theorem lines_get {xs : List (Int × Int)} {ps : List Int} {i : Nat} (h : i < ps.length) : (linesD xs ps ps.length)[i]? = some (.lst ((rowF xs ps i).map D.int)) := by
  unfold linesD
  rw [List.getElem?_map, List.getElem?_range h]
  rfl
def TNthF : TSp := fun ds M Q _ => ∃ (d e : D) (xs : List (Int × Int)) (ps : List Int) (size k : Int), ds = [d, e, .int size, .int k] ∧ LV M d (bookD xs) ∧ LV M e (ps.map D.int) ∧ SzOk xs ps size ∧ 0 ≤ k ∧ k < cntF (stepsF xs ps) size ∧ (∀ i, i < ps.length → (latF xs ps size (i + 1)).natAbs.log2 < 9000) ∧ Q (.lst ((fillF xs ps size ps.length k).map D.int)) M
theorem TNthF_mono : Mono TNthF := fun ds M Q Q' E E' h _ ⟨d, e, xs, ps, z, k, h1, h2, h3, h4, h5, h6, h7, h8⟩ => ⟨d, e, xs, ps, z, k, h1, h2, h3, h4, h5, h6, h7, h _ _ h8⟩
theorem nth_frz : ∀ ds M Q E, Clr Q → TNthF ds M Q E → TNthFil ds M Q E := fun ds M Q E c ⟨d, e, xs, ps, z, k, h1, h2, h3, h4, h5, h6, h7, h8⟩ => ⟨d, e, xs, ps, z, k, h1, h2, h3, h4, h5, h6, h7, fun p r => c p _ r _ h8⟩
structure Six (xs : List (Int × Int)) (ps : List Int) : Prop where
  poss : PossOk xs
  pl : PlOk xs ps
  x6 : xs.length ≤ 6
  p4 : ps.length ≤ 4
  bd : ∃ B : Nat, 2 * B ≤ 2 ^ 98 ∧ (∀ x ∈ xs, x.1.natAbs ≤ B) ∧ ∀ p ∈ ps, p.natAbs ≤ B
theorem Six.sz {xs : List (Int × Int)} {ps : List Int} (S : Six xs ps) : SzOk xs ps (sizeF xs ps) := by
  have := size_pos S.pl.2.2.2
  exact ⟨S.poss, S.pl, by omega, Int.dvd_refl _, by omega⟩
theorem Six.pick {xs : List (Int × Int)} {ps : List Int} {ns : List Nat} (S : Six xs ps) (hp : ns.Perm (List.range ps.length)) : Six xs (PW.pick ns ps) := by
  have pp := pick_perm hp
  obtain ⟨B, b1, b2, b3⟩ := S.bd
  exact ⟨S.poss, S.pl.pick hp, S.x6, by rw [pp.length_eq]; exact S.p4, B, b1, b2, fun p h => b3 p (pp.mem_iff.mp h)⟩
theorem Six.cnt {xs : List (Int × Int)} {ps : List Int} (S : Six xs ps) : 0 < cntF (stepsF xs ps) (sizeF xs ps) ∧ cntF (stepsF xs ps) (sizeF xs ps) ≤ 2 ^ 8820 := by
  obtain ⟨B, b1, b2, b3⟩ := S.bd
  have O := S.sz.opn
  refine ⟨O.lat_pos 0, cnt_bd O b1 b2 b3 S.x6 S.pl.1 S.p4⟩
theorem Six.lat {xs : List (Int × Int)} {ps : List Int} (S : Six xs ps) : ∀ i, i < ps.length → (latF xs ps (sizeF xs ps) (i + 1)).natAbs.log2 < 9000 := fun i hi => by
  have O := S.sz.opn
  have a := lat_leP O (i + 1) (by omega)
  have b := O.lat_pos (i + 1)
  have c := S.cnt.2
  rw [latF_zero] at a
  have e : (2 : Int) ^ 8820 = ((2 ^ 8820 : Nat) : Int) := (Int.natCast_pow 2 8820).symm
  rw [e] at c
  generalize latF xs ps (sizeF xs ps) (i + 1) = t at *
  have d : t.natAbs ≤ 2 ^ 8820 := by
    have : t ≤ ((2 ^ 8820 : Nat) : Int) := Int.le_trans a c
    generalize (2 : Nat) ^ 8820 = q at *
    omega
  have := log2_lt (i := t) (n := 8821) (Nat.lt_of_le_of_lt d (Nat.pow_lt_pow_right (by decide) (by decide))) (by decide)
  omega
theorem Six.toss {xs : List (Int × Int)} {ps : List Int} (S : Six xs ps) : cntF (stepsF xs ps) (sizeF xs ps) < 2 ^ 8900 := Int.lt_of_le_of_lt S.cnt.2 (Int.pow_lt_pow_of_lt (by decide) (by decide))
def TRight : TSp := fun ds M Q _ => ∃ (b : Addr) (xs : List (Int × Int)) (ps : List Int), ds = [.cel b, .lst (bookD xs), .lst (ps.map D.int)] ∧ Six xs ps ∧ CL M b fun L f => ∃ n, StoreL n L ∧ n ≤ 800000 ∧ ∀ L', StoreL (n + 60) L' → Q (.bl true) (f L')
theorem TRight_mono : Mono TRight := fun ds M Q Q' E E' h _ ⟨b, xs, ps, h1, h2, h3⟩ => ⟨b, xs, ps, h1, h2, h3.imp fun L f ⟨n, g1, g2, g3⟩ => ⟨n, g1, g2, fun L' a => h _ _ (g3 L' a)⟩⟩
theorem TRight_len : ∀ ds M Q E, TRight ds M Q E → ds.length = 3 := fun ds M Q E h => by obtain ⟨_, _, _, rfl, _⟩ := h; rfl
section
variable {P : Program} {w : World} {K : PySem.W.Frag} {mg : Str → Option Value} {base : Heap}
local macro_rules
  | `(tactic| walk_at "ok") => `(tactic| first
  | ((show BlkOk N_l_right (defScope st_l_right) _ _); exact blkOk_by (by decide +kernel)))
  | `(tactic| walk_at "tS") => `(tactic| first
  | ((with_reducible refine gS "_law_whole" ?_); refine ws_st 3 ?_)
  | ((with_reducible refine gS "_law_many" ?_); refine ws_st 4 ?_)
  | ((with_reducible refine gS "_law_told" ?_); refine ws_st 5 ?_)
  | ((with_reducible refine gS "_law_factors" ?_); refine ws_st 6 ?_)
  | ((with_reducible refine gS "_law_names" ?_); refine ws_st 8 ?_)
  | ((with_reducible refine gS "_law_place" ?_); refine ws_st 11 ?_)
  | ((with_reducible refine gS "_law_turned" ?_); refine ws_st 12 ?_)
  | ((with_reducible refine gS "_law_lines_here" ?_); refine ws_st 13 ?_)
  | ((with_reducible refine gS "_law_summed_here" ?_); refine ws_st 16 ?_)
  | ((with_reducible refine gS "_law_total" ?_); refine ws_st 19 ?_))
  | `(tactic| walk_at "tG") => `(tactic| first
  | ((with_reducible refine gG "_law_turn" ?_); refine wg_nm 7 ?_)
  | ((with_reducible refine gG "_law_others" ?_); refine wg_nm 9 ?_)
  | ((with_reducible refine gG "_law_vals" ?_); refine wg_nm 10 ?_)
  | ((with_reducible refine gG "_law_one_line" ?_); refine wg_nm 14 ?_)
  | ((with_reducible refine gG "_law_other_line" ?_); refine wg_nm 15 ?_)
  | ((with_reducible refine gG "_law_rest" ?_); refine wg_nm 17 ?_)
  | ((with_reducible refine gG "_law_ring" ?_); refine wg_nm 18 ?_)
  | ((with_reducible refine gG "_law_spot" ?_); refine wg_nm 20 ?_)
  | ((with_reducible refine gG "_law_a" ?_); refine wg_nm 21 ?_)
  | ((with_reducible refine gG "_law_b" ?_); refine wg_nm 22 ?_)
  | ((with_reducible refine gG "_law_c" ?_); refine wg_nm 23 ?_)
  | ((with_reducible refine gG "_law_k" ?_); refine wg_nm 24 ?_))
  | `(tactic| walk_at "eWECall") => `(tactic| first
  | ((with_reducible show WE _ _ (Expr.Call (Expr.Name _ _) _ _ _) _ _ _); walk_at "c")
  | ((with_reducible refine gC "sum" ?_); refine we_sum rfl rfl (by assumption) ?_)
  | ((with_reducible refine gC "len" ?_); refine we_len rfl (by assumption) ?_)
  | ((with_reducible refine gC "int" ?_); refine we_int2 rfl (by assumption) ?_))
  | `(tactic| walk_at "n") => `(tactic| first
  | ((with_reducible refine gN "_law_book_here" ?_); refine we_nm 1 rfl rfl ?_)
  | ((with_reducible refine gN "_law_fresh" ?_); refine we_nm 2 rfl rfl ?_)
  | ((with_reducible refine gN "_law_whole" ?_); refine we_nm 3 rfl rfl ?_)
  | ((with_reducible refine gN "_law_others" ?_); refine we_nm 9 rfl rfl ?_)
  | ((with_reducible refine gN "_law_purse_here" ?_); refine we_nm 0 rfl rfl ?_)
  | ((with_reducible refine gN "_law_many" ?_); refine we_nm 4 rfl rfl ?_)
  | ((with_reducible refine gN "_law_told" ?_); refine we_nm 5 rfl rfl ?_)
  | ((with_reducible refine gN "_law_factors" ?_); refine we_nm 6 rfl rfl ?_)
  | ((with_reducible refine gN "_law_names" ?_); refine we_nm 8 rfl rfl ?_)
  | ((with_reducible refine gN "_law_place" ?_); refine we_nm 11 rfl rfl ?_)
  | ((with_reducible refine gN "_law_k" ?_); refine we_nm 24 rfl rfl ?_)
  | ((with_reducible refine gN "_law_vals" ?_); refine we_nm 10 rfl rfl ?_)
  | ((with_reducible refine gN "_law_lines_here" ?_); refine we_nm 13 rfl rfl ?_)
  | ((with_reducible refine gN "_law_rest" ?_); refine we_nm 17 rfl rfl ?_)
  | ((with_reducible refine gN "_law_ring" ?_); refine we_nm 18 rfl rfl ?_)
  | ((with_reducible refine gN "_law_total" ?_); refine we_nm 19 rfl rfl ?_)
  | ((with_reducible refine gN "_law_a" ?_); refine we_nm 21 rfl rfl ?_)
  | ((with_reducible refine gN "_law_b" ?_); refine we_nm 22 rfl rfl ?_)
  | ((with_reducible show WE _ _ (Expr.Name "int" _) _ _ _); refine we_bltn (v := .ty "int") rfl (by assumption) (by decide +kernel) rfl ?_)
  | ((with_reducible refine gN "_law_turned" ?_); refine we_nm 12 rfl rfl ?_)
  | ((with_reducible refine gN "_law_one_line" ?_); refine we_nm 14 rfl rfl ?_)
  | ((with_reducible refine gN "_law_other_line" ?_); refine we_nm 15 rfl rfl ?_)
  | ((with_reducible refine gN "_law_summed_here" ?_); refine we_nm 16 rfl rfl ?_)
  | ((with_reducible refine gN "_law_c" ?_); refine we_nm 23 rfl rfl ?_))
  | `(tactic| walk_at "t") => `(tactic| first
  | ((with_reducible show WS _ _ (Stmt.Assign [Expr.Name _ _] _ _) _ _ _); walk_at "tS")
  | ((with_reducible show WG _ _ (Expr.Name _ _) _ _ _ _); walk_at "tG")
  | ((with_reducible show WS _ _ (Stmt.Assign [Expr.Tuple [Expr.Name "_law_one_line" _, Expr.Name "_law_other_line" _] _ _] (Expr.Tuple _ _ _) _) _ _ _); first | refine ws_par (i := 14) (j := 15) (by assumption) rfl rfl (by decide) rfl rfl rfl ?_ | refine ws_asg ?_)
  | ((with_reducible show WS _ _ (Stmt.Assign [Expr.Tuple [Expr.Name "_law_others" _, Expr.Name "_law_vals" _] _ _] (Expr.Tuple _ _ _) _) _ _ _); first | refine ws_par (i := 9) (j := 10) (by assumption) rfl rfl (by decide) rfl rfl rfl ?_ | refine ws_asg ?_)
  | ((with_reducible show WS _ _ (Stmt.Assign [Expr.Tuple _ _ _] _ _) _ _ _); refine ws_asg ?_))
  | `(tactic| walk_at "c") => `(tactic| first
  | ((with_reducible refine gCK "_law_toss" ?_); refine we_cl "_law_toss" ?_)
  | ((with_reducible refine gCK "sure_sum" ?_); refine we_cl "sure_sum" ?_)
  | ((with_reducible refine gCK "common_size" ?_); refine we_cl "common_size" ?_)
  | ((with_reducible refine gCK "count_fillings" ?_); refine we_cl "count_fillings" ?_)
  | ((with_reducible refine gCK "nth_filling" ?_); refine we_cl "nth_filling" ?_)
  | ((with_reducible refine gCK "filling_index" ?_); refine we_cl "filling_index" ?_)
  | ((with_reducible refine gCK "_law_product" ?_); refine we_cl "_law_product" ?_)
  | ((with_reducible refine gCK "step_list" ?_); refine we_cl "step_list" ?_)
  | ((with_reducible refine gCK "triangle" ?_); refine we_cl "triangle" ?_)
  | ((with_reducible refine gCK "_law_told_right" ?_); refine we_cl "_law_told_right" ?_)
  | ((with_reducible refine gCK "_law_mixed" ?_); refine we_cl "_law_mixed" ?_))
  | `(tactic| walk_at "tg") => `(tactic| first
  | exact Tg.one (i := 20) rfl rfl
  | exact Tg.three (i := 21) (j := 22) (k := 23) rfl rfl rfl (by decide) rfl rfl rfl
  | exact Tg.two (i := 21) (j := 22) rfl rfl (by decide) rfl rfl
  | exact Tg.one (i := 24) rfl rfl)
  | `(tactic| walk_at "e") => `(tactic| ((with_reducible show WE _ _ (Expr.Compare _ [CmpOp.LtE, CmpOp.Lt] _ _) _ _ _); refine we_leltW ?_))
theorem fn_lright {f : Addr} {fd : FuncData} (b_int : mg "int" = none) (b_len : mg "len" = none) (b_range : mg "range" = none) (b_sum : mg "sum" = none) (b_zip : mg "zip" = none) (d_com : FD P w K mg base 7 "common_size" 2 TComSz) (d_cnt : FD P w K mg base 8 "count_fillings" 3 TCntFil) (d_nth : FD P w K mg base 8 "nth_filling" 4 TNthF) (d_tri : FD P w K mg base 7 "triangle" 2 TTri) (d_idx : FD P w K mg base 8 "filling_index" 4 TFilIdx) (d_ssum : FD P w K mg base 7 "sure_sum" 3 TSureSum)
    (d_toss : FD P w K mg base 1 "_law_toss" 2 TToss) (d_told : FD P w K mg base 8 "_law_told_right" 3 TTold1) (d_mix : FD P w K mg base 2 "_law_mixed" 2 TMixed) (d_step : FD P w K mg base 7 "step_list" 2 TStepLF) (d_prod : FD P w K mg base 1 "_law_product" 1 TProd) (Fn : L2.Fun K "_law_right" "_law_right" st_l_right f fd) :
    FnOk P w K mg base (L2.CX P w) 9 f fd ["_law_purse_here", "_law_book_here", "_law_fresh"] (spG K TRight) := by
  refine fn_ok Fn sc_l_right rfl TRight_len ?_
  intro cdv A outer s H E N hr ds M Q X' h
  obtain ⟨b, xs, ps, rfl, S, k, L0, hM, n, hL0, hn, q⟩ := h
  have hp := S.poss
  have pl := S.pl
  have sz := S.sz
  have O := sz.opn
  have p8 := pl.2.1
  have p4 := S.p4
  have cn := S.cnt
  show WB _ _ _ [some (.cel b), some (.lst (bookD xs)), some (.lst (ps.map D.int)), none, none, none, none, none, none, none, none, none, none, none, none, none, none, none, none, none, none, none, none, none, none] _ _
  refine wb_cons ?_
  walk_at "g"
  refine ⟨_, _, xs, ps, rfl, .l, .l, hp, pl, ?_⟩
  walk_at "g"
  refine ⟨_, _, xs, ps, _, rfl, .l, .l, sz, ?_⟩
  walk_at "g"
  refine ttossB cn.1 S.toss (cl_k hM ⟨_, hL0, by omega, fun kk L1 k0 k1 hL1 => ?_⟩)
  walk_at "g"
  refine ⟨_, _, xs, ps, _, kk, rfl, .l, .l, sz, k0, k1, S.lat, ?_⟩
  have G := fillF_good O ps.length kk (Nat.le_refl _)
  have gl := fillF_len (xs := xs) (ps := ps) (size := sizeF xs ps) ps.length kk
  generalize fillF xs ps (sizeF xs ps) ps.length kk = vs at *
  walk_at "g"
  refine ⟨_, _, _, xs, ps, vs, _, rfl, .l, .l, .l, hp, pl, by have := S.x6; omega, G, gl, ?_⟩
  walk_at "g"
  refine we_froz 0 (we_lc N (by walk_at "tg") (by walk_at "ok") (wi_list ?_))
  walk_at "g"
  refine ⟨_, .l, fun i acc M' => ∃ (ws : List Int) (L' : List D), acc = ws.map D.int ∧ ws.length = i ∧ (∀ w ∈ ws, w.natAbs ≤ 9) ∧ M' = M.set k (b, .lst L') ∧ StoreL (n + 1 + i) L', ?_, ?_, ?_, ?_⟩
  · exact ⟨[], L1, rfl, rfl, by simp, rfl, hL1⟩
  · rintro i acc M' p hi ⟨ws, L', rfl, _⟩
    exact .l
  · rintro i d1 acc M' p hd ⟨ws, L', rfl, hw, hwb, rfl, hL'⟩
    obtain ⟨y, hy, rfl⟩ := List.mem_map.mp (List.mem_of_getElem? hd)
    have hi : i < ps.length := by have := (List.getElem?_eq_some_iff.mp hd).1; rwa [List.length_map] at this
    refine ⟨_, rfl, fun B => ?_⟩
    walk_at "g"
    refine ttoss (by decide) (by decide) (cl_skip (cl_set hM ⟨_, hL', by omega, fun t L2 h0 h1 hL2 => ?_⟩))
    walk_at "g"
    refine ⟨_, _, rfl, by rw [List.length_map, sizeLine_eq]; omega, ws ++ [t - 9], L2, by rw [List.map_append]; rfl, by rw [List.length_append, hw]; rfl, fun w hw' => ?_, rfl, hL2⟩
    rcases List.mem_append.mp hw' with h | h
    · exact hwb w h
    · rw [List.mem_singleton.mp h]; omega
  rintro acc M' p1 ⟨ws, L2, rfl, hw, hwb, rfl, hL2⟩
  rw [List.length_map] at hw hL2
  refine ⟨p1, _, rfl, rfl, ?_⟩
  walk_at "g"
  refine ws_for N (wi_range1 rfl (by assumption) ?_)
  walk_at "g"
  have psn := (List.nodup_append.mp pl.2.2.2).1
  have sbits : ∀ {qs : List Int}, PlOk xs qs → ∀ s ∈ stepsF xs qs, s.natAbs ≤ 2 ^ 3264 := fun ql s hs => by
    obtain ⟨i, hi, rfl⟩ := steps_mem hs
    exact step_bd hp.1 ql hi
  have wbits : ∀ w ∈ ws, w.natAbs ≤ 2 ^ 200 := fun w hw => Nat.le_trans (hwb w hw) (Nat.le_trans (show 9 ≤ 2 ^ 10 by decide) (Nat.pow_le_pow_right (by decide) (by decide)))
  refine ⟨by decide, by decide, fun t δ' M' => ∃ (x7 x8 x9 x10 x11 x12 : Option D) (L' : List D), δ' = [some (.cel b), some (.lst (bookD xs)), some (.lst (ps.map D.int)), some (.int (sizeF xs ps)), some (.int (cntF (stepsF xs ps) (sizeF xs ps))), some (.lst (vs.map D.int)), some (.lst (ws.map D.int)), x7, x8, x9, x10, x11, x12, none, none, none, none, none, none, none, none, none, none, none, none] ∧ M' = M.set k (b, .lst L') ∧ StoreL (n + 10 + 12 * t) L', ?_, fun _ _ _ _ _ => trivial, ?_, ?_⟩
  · exact ⟨none, none, none, none, none, none, L2, rfl, rfl, hL2.up (by omega)⟩
  · rintro t d1 δ' M' hd ⟨x7, x8, x9, x10, x11, x12, L3, rfl, rfl, hL3⟩
    obtain ⟨ht, rfl⟩ := rangeD_inv hd
    have ht3 : t < 3 := ht
    walk_at "g"
    refine ⟨b, (ps.map D.int).length, rfl, by rw [List.length_map]; exact p8, cl_set hM ⟨_, hL3, by omega, fun ns L4 hpm hL4 => ?_⟩⟩
    rw [List.length_map] at hpm
    have nl : ns.length = ps.length := by rw [hpm.length_eq, List.length_range]
    have nlt : ∀ y ∈ ns, y < ps.length := fun y hy => List.mem_range.mp (hpm.mem_iff.mp hy)
    have gget : ∀ (l : List Int) {y : Nat}, y < l.length → (l.map D.int)[y]? = some (.int (l.getD y 0)) := fun l y h => by rw [List.getElem?_map, List.getD_eq_getElem?_getD, List.getElem?_eq_getElem h]; rfl
    have pp := pick_perm hpm
    have qp := S.pick hpm
    have szq := sz.pick hpm
    have Gq := G.pick gl.symm hpm
    have e1 : sizeF xs (pick ns ps) = sizeF xs ps := size_perm pp
    have e2 : cntF (stepsF xs (pick ns ps)) (sizeF xs ps) = cntF (stepsF xs ps) (sizeF xs ps) := cnt_perm pp (pp.nodup_iff.mpr psn) szq.opn O
    have e3 := prod_perm (xs := xs) pp (pp.nodup_iff.mpr psn)
    have pl' : (pick ns vs).length = (pick ns ps).length := by rw [pick_len, pick_len]
    obtain ⟨i0, i1, i2⟩ := idx_full szq.opn Gq pl'
    have qlat := qp.lat
    rw [e1] at qlat
    walk_at "g"
    refine we_froz 0 (we_lcM (fPick ps) N (by walk_at "tg") (by walk_at "ok") (wi_list ?_))
    walk_at "g"
    refine ⟨_, .l, by rw [natD_len, sizeLine_eq]; omega, fun _ _ => .l, ?_, ?_⟩
    · intro j d' acc p hd
      obtain ⟨y, hy, rfl⟩ := List.mem_map.mp (List.mem_of_getElem? hd)
      refine ⟨_, rfl, fun B => ?_⟩
      walk_at "g"
      refine ⟨_, atI_nat (gget ps (nlt y hy)), ?_⟩
      exact ⟨rfl, rfl⟩
    intro q1
    refine ⟨q1, _, rfl, rfl, ?_⟩
    rw [pick_D]
    walk_at "g"
    refine we_froz 0 (we_lcM (fPick vs) N (by walk_at "tg") (by walk_at "ok") (wi_list ?_))
    walk_at "g"
    refine ⟨_, .l, by rw [natD_len, sizeLine_eq]; omega, fun _ _ => .l, ?_, ?_⟩
    · intro j d' acc p hd
      obtain ⟨y, hy, rfl⟩ := List.mem_map.mp (List.mem_of_getElem? hd)
      refine ⟨_, rfl, fun B => ?_⟩
      walk_at "g"
      refine ⟨_, atI_nat (gget vs (by rw [gl]; exact nlt y hy)), ?_⟩
      exact ⟨rfl, rfl⟩
    intro q2
    refine ⟨q2, _, rfl, rfl, ?_⟩
    rw [pick_D]
    walk_at "g"
    refine ⟨_, _, rfl, ?_⟩
    walk_at "g"
    refine ⟨_, _, xs, pick ns ps, rfl, .l, .l, hp, qp.pl, ?_⟩
    walk_at "g"
    refine ⟨_, stepsF xs (pick ns ps), rfl, .l, by rw [steps_len]; exact qp.pl.2.1, sbits qp.pl, ?_⟩
    walk_at "g"
    refine ⟨_, _, xs, ps, rfl, .l, .l, hp, pl, ?_⟩
    walk_at "g"
    refine ⟨_, stepsF xs ps, rfl, .l, by rw [steps_len]; exact p8, sbits pl, ?_⟩
    walk_at "g"
    refine iteQ (by rw [decide_eq_true e3]; rfl) ?_
    walk_at "g"
    refine we_lst ?_
    walk_at "g"
    refine ⟨_, _, xs, pick ns ps, rfl, .l, .l, hp, qp.pl, ?_⟩
    rw [e1]
    walk_at "g"
    refine ⟨_, _, xs, pick ns ps, _, rfl, .l, .l, szq, ?_⟩
    rw [e2]
    walk_at "g"
    refine we_lst ?_
    walk_at "g"
    refine req_intsN (xs := [sizeF xs ps, cntF (stepsF xs ps) (sizeF xs ps)]) (ys := [sizeF xs ps, cntF (stepsF xs ps) (sizeF xs ps)]) LV.l LV.l ?_
    walk_at "g"
    refine iteQ (by simp) ?_
    walk_at "g"
    refine ⟨_, _, _, xs, pick ns ps, pick ns vs, _, rfl, .l, .l, .l, szq, Gq, pl', ?_⟩
    rw [e2] at i1
    generalize hix : idxTo xs (pick ns ps) (sizeF xs ps) (pick ns vs) (pick ns ps).length = ix at *
    walk_at "g"
    refine iteP (decide_eq_true i0) ?_
    walk_at "g"
    refine iteQ (by rw [decide_eq_true i1]; rfl) ?_
    walk_at "g"
    refine ⟨_, _, xs, pick ns ps, _, ix, rfl, .l, .l, szq, i0, by rw [e2]; exact i1, qlat, ?_⟩
    rw [i2]
    walk_at "g"
    refine req_intsN (xs := pick ns vs) (ys := pick ns vs) LV.l LV.l ?_
    walk_at "g"
    refine iteQ (by simp) ?_
    walk_at "g"
    refine we_froz 0 (we_lcM (fPick ws) N (by walk_at "tg") (by walk_at "ok") (wi_list ?_))
    walk_at "g"
    refine ⟨_, .l, by rw [natD_len, sizeLine_eq]; omega, fun _ _ => .l, ?_, ?_⟩
    · intro j d' acc p hd
      obtain ⟨y, hy, rfl⟩ := List.mem_map.mp (List.mem_of_getElem? hd)
      refine ⟨_, rfl, fun B => ?_⟩
      walk_at "g"
      refine ⟨_, atI_nat (gget ws (by rw [hw]; exact nlt y hy)), ?_⟩
      exact ⟨rfl, rfl⟩
    intro q3
    refine ⟨q3, _, rfl, rfl, ?_⟩
    rw [pick_D]
    walk_at "g"
    refine ⟨_, _, _, xs, pick ns ps, pick ns ws, rfl, .l, .l, .l, hp, qp.pl, by rw [pick_len, pick_len], fun w hw' => wbits w ((pick_perm (l := ws) (by rw [hw]; exact hpm)).mem_iff.mp hw'), fun T m hs => ?_⟩
    walk_at "g"
    refine ⟨_, _, _, xs, ps, ws, rfl, .l, .l, .l, hp, pl, hw, wbits, fun T2 m2 hs2 => ?_⟩
    obtain ⟨rfl, rfl⟩ := hs.uniq hs2 (sums_pick hw hpm)
    refine pair_ne ?_
    walk_at "g"
    exact ⟨_, _, _, _, _, _, L4, rfl, rfl, hL4.up (by omega)⟩
  rintro δ' M' ⟨x7, x8, x9, x10, x11, x12, L5, rfl, rfl, hL5⟩
  rw [rangeD_len] at hL5
  have hL5' : StoreL (n + 46) L5 := hL5.up (by have : (3 : Int).toNat = 3 := rfl; omega)
  walk_at "g"
  refine ⟨_, _, xs, ps, rfl, .l, .l, hp, pl, fun p2 => ?_⟩
  walk_at "g"
  rw [List.length_map]
  have pl1 := pl.1
  refine ttoss (by omega) (by omega) (cl_skip (cl_set hM ⟨_, hL5', by omega, fun t1 L6 h10 h11 hL6 => ?_⟩))
  obtain ⟨k1', rfl⟩ := Int.eq_ofNat_of_zero_le h10
  have hk1 : k1' < ps.length := by omega
  refine Sq.ix (.inl ⟨rfl, .c 0 rfl⟩) (atI_nat (lines_get hk1)) ?_
  walk_at "g"
  rw [List.length_map]
  refine ttoss (by omega) (by omega) (cl_skip (cl_set hM ⟨_, hL6, by omega, fun t2 L7 h20 h21 hL7 => ?_⟩))
  obtain ⟨k2', rfl⟩ := Int.eq_ofNat_of_zero_le h20
  have hk2 : k2' < ps.length := by omega
  refine Sq.ix (.inl ⟨rfl, .c 0 rfl⟩) (atI_nat (lines_get hk2)) ?_
  walk_at "g"
  refine ⟨_, _, rfl, ?_⟩
  have r1 := rowF_len (xs := xs) hk1
  have r2 := rowF_len (xs := xs) hk2
  have mg := mix_good O G gl r1 r2 (rowF_fits O hk1) (rowF_fits O hk2)
  have ml := mixL_len (sizeF xs ps) vs (rowF xs ps k1') (rowF xs ps k2')
  obtain ⟨j0, j1, _⟩ := idx_full O mg (by omega)
  have W0 := O.pos
  refine wb_drop (M0 := M.set k (b, .lst L7)) (List.sublist_cons_self _ _) ?_
  refine wb_cons ?_
  refine ws_setLC (i := 16) N rfl rfl (lc_froz 0 (lc_lcM (fMix (sizeF xs ps)) N (by walk_at "tg") (by walk_at "ok") (wi_zip3 rfl (by assumption) ?_)))
  walk_at "g"
  refine ⟨_, _, _, _, _, _, rfl, .l, .l, .l, by rw [zip3D_len, List.length_map, sizeLine_eq]; omega, fun _ _ => ⟨.l, .l, .l⟩, ?_, ?_⟩
  · intro j d' acc p hd
    obtain ⟨x, y, u, hx, hy, hu, rfl⟩ := zip3D_inv hd
    obtain ⟨x, _, rfl⟩ := List.mem_map.mp (List.mem_of_getElem? hx)
    obtain ⟨y, _, rfl⟩ := List.mem_map.mp (List.mem_of_getElem? hy)
    obtain ⟨u, _, rfl⟩ := List.mem_map.mp (List.mem_of_getElem? hu)
    refine ⟨_, ⟨_, _, _, rfl, rfl⟩, fun B => ?_⟩
    walk_at "g"
    all_goals first | exact W0 | exact ⟨rfl, rfl⟩ | exact IntMulOk.of_left (by decide)
  intro q4
  refine ⟨q4, _, rfl, rfl, ?_⟩
  rw [mix_D (by omega) (by omega)]
  walk_at "g"
  refine ⟨_, _, _, xs, ps, mixL (sizeF xs ps) vs (rowF xs ps k1') (rowF xs ps k2'), _, rfl, .l, .l, .l, sz, mg, by omega, ?_⟩
  generalize idxTo xs ps (sizeF xs ps) (mixL (sizeF xs ps) vs (rowF xs ps k1') (rowF xs ps k2')) ps.length = jx at *
  walk_at "g"
  refine ⟨_, _, _, xs, ps, ws, rfl, .l, .l, .l, hp, pl, hw, wbits, fun T m hs => ?_⟩
  have hz : m ∣ dotF ws vs - T := (hs.2.2 _).mp ⟨vs, gl, G.fit, rfl⟩
  have vb : ∀ v ∈ vs, v.natAbs ≤ 2 ^ 30000 := fun v hv => by
    have := G.rng v hv
    have := sz.bd
    have : v < 2 ^ 30000 := by omega
    exact bdN ⟨by omega, Int.le_of_lt this⟩
  walk_at "g"
  refine we_froz 0 (we_lcM fMulP N (by walk_at "tg") (by walk_at "ok") (wi_zip rfl (by assumption) ?_))
  walk_at "g"
  refine ⟨_, _, _, _, rfl, .l, .l, by rw [zipD_len, List.length_map, sizeLine_eq]; omega, fun _ _ => ⟨.l, .l⟩, ?_, ?_⟩
  · intro j d' acc p hd
    obtain ⟨x, y, hx, hy, rfl⟩ := zipD_inv hd
    obtain ⟨x, xm, rfl⟩ := List.mem_map.mp (List.mem_of_getElem? hx)
    obtain ⟨y, ym, rfl⟩ := List.mem_map.mp (List.mem_of_getElem? hy)
    refine ⟨_, ⟨_, _, rfl, rfl⟩, fun B => ?_⟩
    walk_at "g"
    all_goals first | exact ⟨rfl, rfl⟩ | exact IntMulOk.of_bits (bits_of (wbits x xm) (by decide)) (bits_of (vb y ym) (by decide))
  intro q5
  refine ⟨q5, _, rfl, rfl, ?_⟩
  rw [mul_D]
  walk_at "g"
  refine ⟨_, _, rfl, .l, ?_⟩
  rw [dot_sum ws vs.length vs rfl (by omega)]
  walk_at "g"
  refine iteP (decide_eq_true j0) ?_
  walk_at "g"
  refine iteP (decide_eq_true j1) ?_
  walk_at "g"
  refine iteD (fun m0 => ?_) (fun m0 => ?_)
  · have hzT : dotF ws vs = T := by
      rw [m0, Int.zero_dvd] at hz
      omega
    walk_at "g"
    rw [decide_eq_true hzT]
    exact q L7 (hL7.up (by omega))
  · have m1 : 0 < m := by have := hs.1; omega
    walk_at "g"
    rotate_left 1
    · exact m1
    rw [Int.emod_eq_zero_of_dvd hz]
    exact q L7 (hL7.up (by omega))
end
/-! FoD -/
set_option exponentiation.threshold 100000
def TLaw : TSp := fun ds M Q _ => ∃ ns : List Int, ds = [.lst (ns.map D.int)] ∧ ns.length ≤ 63 ∧ ∀ M', Q (.bl true) M'
theorem TLaw_len : ∀ ds M Q E, TLaw ds M Q E → ds.length = 1 := fun ds M Q E h => by obtain ⟨_, rfl, _⟩ := h; rfl
theorem six_of {own : List Int} {sh : Int} {sp nw : List Int} {B : Nat} (hB : 2 * (B + 1) ≤ 2 ^ 98) (hB2 : B + 1 ≤ 10 ^ 30) (hp : PossOk (bkOf own sh sp)) (l6 : sp.length ≤ 6) (spb : ∀ x ∈ sp, x.natAbs ≤ B) (n1 : 1 ≤ nw.length) (n4 : nw.length ≤ 4) (nd : nw.Nodup) (nb : ∀ z ∈ nw, NewPl (bkOf own sh sp) z ∧ z.natAbs ≤ B + 1) : Six (bkOf own sh sp) nw := by
  refine ⟨hp, ⟨n1, by omega, fun p h => ?_, List.nodup_append.mpr ⟨nd, List.Pairwise.imp (fun h => Int.ne_of_lt h) hp.1.2.2, fun a ha c hc e => ?_⟩⟩, by rw [bk_len]; exact l6, n4, B + 1, hB, fun x hx => ?_, fun p h => (nb p h).2⟩
  · have := (nb p h).2
    unfold Small
    omega
  · obtain ⟨x, hx, rfl⟩ := List.mem_map.mp hc
    exact (nb a ha).1 x hx e.symm
  · obtain ⟨s, hs, rfl⟩ := List.mem_map.mp hx
    exact Nat.le_succ_of_le (spb s hs)
section
variable {P : Program} {w : World} {K : PySem.W.Frag} {mg : Str → Option Value} {base : Heap}
local macro_rules
  | `(tactic| walk_at "ok") => `(tactic| first
  | ((show BlkOk N_law (defScope st_law) _ _); exact blkOk_by (by decide +kernel)))
  | `(tactic| walk_at "tS") => `(tactic| first
  | ((with_reducible refine gS "_law_purse_here" ?_); refine ws_st 2 ?_)
  | ((with_reducible refine gS "_law_row_here_here" ?_); refine ws_st 4 ?_)
  | ((with_reducible refine gS "_law_book_here" ?_); refine ws_st 5 ?_))
  | `(tactic| walk_at "tG") => `(tactic| first
  | ((with_reducible refine gG "_law_k" ?_); refine wg_nm 1 ?_)
  | ((with_reducible refine gG "_law_most" ?_); refine wg_nm 3 ?_))
  | `(tactic| walk_at "eWECall") => `(tactic| first
  | ((with_reducible refine gC "max" ?_); refine we_max2 rfl rfl (by assumption) ?_)
  | ((with_reducible show WE _ _ (Expr.Call (Expr.Name _ _) _ _ _) _ _ _); walk_at "c")
  | ((with_reducible refine gC "min" ?_); refine we_min2 rfl rfl (by assumption) ?_)
  | ((with_reducible refine gC "len" ?_); refine we_len rfl (by assumption) ?_))
  | `(tactic| walk_at "n") => `(tactic| first
  | ((with_reducible refine gN "_law_purse_here" ?_); refine we_nm 2 rfl rfl ?_)
  | ((with_reducible refine gN "_law_script" ?_); refine we_nm 0 rfl rfl ?_)
  | ((with_reducible refine gN "_law_row_here_here" ?_); refine we_nm 4 rfl rfl ?_)
  | ((with_reducible refine gN "_law_book_here" ?_); refine we_nm 5 rfl rfl ?_)
  | ((with_reducible refine gN "_law_k" ?_); refine we_nm 1 rfl rfl ?_)
  | ((with_reducible refine gN "_law_most" ?_); refine we_nm 3 rfl rfl ?_))
  | `(tactic| walk_at "t") => `(tactic| first
  | ((with_reducible show WS _ _ (Stmt.Assign [Expr.Name _ _] _ _) _ _ _); walk_at "tS")
  | ((with_reducible show WG _ _ (Expr.Name _ _) _ _ _ _); walk_at "tG")
  | ((with_reducible show WS _ _ (Stmt.Assign [Expr.Tuple _ _ _] _ _) _ _ _); refine ws_asg ?_))
  | `(tactic| walk_at "c") => `(tactic| first
  | ((with_reducible refine gCK "_law_purse" ?_); refine we_cl "_law_purse" ?_)
  | ((with_reducible refine gCK "_law_row" ?_); refine we_cl "_law_row" ?_)
  | ((with_reducible refine gCK "_law_book" ?_); refine we_cl "_law_book" ?_)
  | ((with_reducible refine gCK "_law_right" ?_); refine we_cl "_law_right" ?_)
  | ((with_reducible refine gCK "_law_new" ?_); refine we_cl "_law_new" ?_))
theorem fn_law {f : Addr} {fd : FuncData} (b_len : mg "len" = none) (b_max : mg "max" = none) (b_min : mg "min" = none) (b_range : mg "range" = none) (d_purse : FD P w K mg base 1 "_law_purse" 2 TPurse) (d_row : FD P w K mg base 2 "_law_row" 1 TRowP) (d_book : FD P w K mg base 4 "_law_book" 3 TBookR)
    (d_new : FD P w K mg base 2 "_law_new" 4 TNew) (d_right : FD P w K mg base 9 "_law_right" 3 TRight) (Fn : L2.Fun K "law" "law" st_law f fd) : FnOk P w K mg base (L2.CX P w) 10 f fd ["_law_script"] (spG K TLaw) := by
  refine fn_ok Fn sc_law rfl TLaw_len ?_
  intro cdv A outer s H E N hr ds M Q X' h
  obtain ⟨ns, rfl, hns, q⟩ := h
  show WB _ _ _ [some _, none, none, none, none, none] _ _
  refine wb_cons ?_
  refine ws_for N (wi_range1 rfl (by assumption) ?_)
  walk_at "g"
  refine ⟨_, _, rfl, ?_⟩
  walk_at "g"
  refine ⟨_, _, rfl, ?_⟩
  walk_at "g"
  rw [List.length_map]
  generalize hw : (if (if (ns.length : Int) < 3 then (ns.length : Int) else 3) > 1 then (if (ns.length : Int) < 3 then (ns.length : Int) else 3) else 1) = wide
  have hw4 : 1 ≤ wide ∧ wide ≤ 3 := by rw [← hw]; split <;> split <;> omega
  refine ⟨by omega, by omega, fun j δ' M' => ∃ (x1 x2 x3 x4 x5 : Option D) (rest : Cells), δ' = [some (.lst (ns.map D.int)), x1, x2, x3, x4, x5] ∧ M' = rest ++ M, ?_, fun _ _ _ _ _ => trivial, ?_, ?_⟩
  · exact ⟨_, _, _, _, _, [], rfl, rfl⟩
  · rintro j d δ' M' hd ⟨x1, x2, x3, x4, x5, rest, rfl, rfl⟩
    obtain ⟨hj, rfl⟩ := rangeD_inv hd
    rw [show (0 : Int) + (j : Nat) = (j : Nat) by omega]
    walk_at "s"
    refine wb_drop (List.sublist_append_right _ _) ?_
    walk_at "g"
    refine ⟨ns, j, rfl, by omega, by omega, fun p L hL => ?_⟩
    walk_at "g"
    refine ws_for N (wi_tup ?_)
    walk_at "g"
    refine ⟨_, rfl, fun i δ' M' => ∃ (y3 y4 y5 : Option D) (L' : List D), δ' = [some (.lst (ns.map D.int)), some (.int j), some (.cel p), y3, y4, y5] ∧ StoreL (1000 * i) L' ∧ M' = (p, .lst L') :: M, ?_, fun _ _ _ _ _ => trivial, ?_, ?_⟩
    · exact ⟨_, _, _, L, rfl, hL, rfl⟩
    · rintro i d δ' M' hd ⟨y3, y4, y5, L0, rfl, hL0, rfl⟩
      obtain ⟨m, rfl, hm, hi⟩ : ∃ m : Nat, d = .int m ∧ m ≤ 6 ∧ i < 2 := by
        have h1 := (List.getElem?_eq_some_iff.mp hd).1
        have h2 := List.mem_of_getElem? hd
        simp only [List.mem_cons, List.not_mem_nil, or_false] at h2
        rcases h2 with rfl | rfl
        · exact ⟨3, rfl, by omega, h1⟩
        · exact ⟨6, rfl, by omega, h1⟩
      walk_at "g"
      refine ⟨p, rfl, cl_0 ⟨_, hL0, by omega, fun own sh reach L1 ok hL1 => ?_⟩⟩
      walk_at "g"
      refine ⟨p, own, sh, reach, m, rfl, ok, by omega, cl_0 ⟨_, hL1, by omega, fun sp L2 hp spl spb hL2 => ?_⟩⟩
      walk_at "g"
      have r1 := ok.r1
      have r0 := ok.r0
      refine ⟨p, bkOf own sh sp, own, sh, reach, 4, reach.natAbs + 48, rfl, ⟨hp.1.1, fun x hx => ?_, by omega, by omega⟩, ok, by decide, by decide, cl_0 ⟨_, hL2, by omega, fun nw L3 nw1 nwl nwd nwb hL3 => ?_⟩⟩
      · obtain ⟨z, hz, rfl⟩ := List.mem_map.mp hx
        have := (spb z hz).2
        show z.natAbs ≤ _
        omega
      walk_at "g"
      refine ⟨p, bkOf own sh sp, nw, rfl, six_of (B := reach.natAbs + 48) (by omega) (by omega) hp (by omega) (fun x hx => by have := (spb x hx).2; omega) nw1 nwl nwd nwb, cl_0 ⟨_, hL3, by omega, fun L4 hL4 => ?_⟩⟩
      walk_at "g"
      exact ⟨_, _, _, L4, rfl, hL4.up (by omega), rfl⟩
    · rintro δ' M' ⟨y3, y4, y5, L', rfl, hL', rfl⟩
      exact ⟨_, _, _, _, _, [(p, .lst L')], rfl, rfl⟩
  · rintro δ' M' ⟨x1, x2, x3, x4, x5, rest, rfl, rfl⟩
    walk_at "g"
    exact q _
end
/-! FoEnd -/
theorem law_sp {K : PySem.W.Frag} {H : Hp} {a : Addr} {ns : List Int} (hl : ns.length ≤ 63) (hS : SqL K H a (ns.map V.int)) : spG K TLaw [.ref a] H (fun v _ => v = .bl true) fun _ _ _ => False :=
  ⟨H, [], [.lst (ns.map D.int)], { le := Same.refl _, nd := List.Pairwise.nil, cell := (fun _ h => nomatch h), out := (fun _ h => nomatch h), slot := (fun _ _ h => nomatch h), dlen := rfl }, .cons (.lst hS (Reps.ints ns)) .nil, ns, rfl, hl, fun M' v F' H' _ _ r => by cases r; rfl⟩
theorem top_all {l : PySem.W.OpenLaw} {w : World} {K : PySem.W.Frag} {h : Heap} {mg : Str → Option Value} {fa f_is_integer f_is_told f_is_item f_is_book f_need_book f_divisor_of f_multiple_of f_divides f_do_fit f_conflicts_in f_conflict_in f_need_fitting f_need_possible f_conflict_of f_inverse_of f_met f_class_by f_class_at f_need_places f_need_open f_steps_in f_size_in f_count_in f_need_size f_step_list f_common_size f_count_fillings f_nth_filling f_index_in f_filling_index f_vectors_in f_triangle f_summed f_need_weights f_sure_sum f_l_purse f_l_toss f_l_divisor f_l_multiple f_l_row f_l_at f_l_spots f_l_book f_l_new f_l_mixed f_l_product f_l_told_right f_l_right f_law : Addr} (X : K.In h) (G : h.Ns mainGlobals mg) (hfa : mg "law" = some (.ref fa))
    {od_is_integer an_is_integer : Option Addr} {sl_is_integer : Array (Option Value)} {oc_is_integer kV_is_integer dc_is_integer pm_is_integer cd_is_integer ct_is_integer : Value}
    {od_is_told an_is_told : Option Addr} {sl_is_told : Array (Option Value)} {oc_is_told kV_is_told dc_is_told pm_is_told cd_is_told ct_is_told : Value}
    {od_is_item an_is_item : Option Addr} {sl_is_item : Array (Option Value)} {oc_is_item kV_is_item dc_is_item pm_is_item cd_is_item ct_is_item : Value}
    {od_is_book an_is_book : Option Addr} {sl_is_book : Array (Option Value)} {oc_is_book kV_is_book dc_is_book pm_is_book cd_is_book ct_is_book : Value}
    {od_need_book an_need_book : Option Addr} {sl_need_book : Array (Option Value)} {oc_need_book kV_need_book dc_need_book pm_need_book cd_need_book ct_need_book : Value}
    {od_divisor_of an_divisor_of : Option Addr} {sl_divisor_of : Array (Option Value)} {oc_divisor_of kV_divisor_of dc_divisor_of pm_divisor_of cd_divisor_of ct_divisor_of : Value}
    {od_multiple_of an_multiple_of : Option Addr} {sl_multiple_of : Array (Option Value)} {oc_multiple_of kV_multiple_of dc_multiple_of pm_multiple_of cd_multiple_of ct_multiple_of : Value}
    {od_divides an_divides : Option Addr} {sl_divides : Array (Option Value)} {oc_divides kV_divides dc_divides pm_divides cd_divides ct_divides : Value}
    {od_do_fit an_do_fit : Option Addr} {sl_do_fit : Array (Option Value)} {oc_do_fit kV_do_fit dc_do_fit pm_do_fit cd_do_fit ct_do_fit : Value}
    {od_conflicts_in an_conflicts_in : Option Addr} {sl_conflicts_in : Array (Option Value)} {oc_conflicts_in kV_conflicts_in dc_conflicts_in pm_conflicts_in cd_conflicts_in ct_conflicts_in : Value}
    {od_conflict_in an_conflict_in : Option Addr} {sl_conflict_in : Array (Option Value)} {oc_conflict_in kV_conflict_in dc_conflict_in pm_conflict_in cd_conflict_in ct_conflict_in : Value}
    {od_need_fitting an_need_fitting : Option Addr} {sl_need_fitting : Array (Option Value)} {oc_need_fitting kV_need_fitting dc_need_fitting pm_need_fitting cd_need_fitting ct_need_fitting : Value}
    {od_need_possible an_need_possible : Option Addr} {sl_need_possible : Array (Option Value)} {oc_need_possible kV_need_possible dc_need_possible pm_need_possible cd_need_possible ct_need_possible : Value}
    {od_conflict_of an_conflict_of : Option Addr} {sl_conflict_of : Array (Option Value)} {oc_conflict_of kV_conflict_of dc_conflict_of pm_conflict_of cd_conflict_of ct_conflict_of : Value}
    {od_inverse_of an_inverse_of : Option Addr} {sl_inverse_of : Array (Option Value)} {oc_inverse_of kV_inverse_of dc_inverse_of pm_inverse_of cd_inverse_of ct_inverse_of : Value}
    {od_met an_met : Option Addr} {sl_met : Array (Option Value)} {oc_met kV_met dc_met pm_met cd_met ct_met : Value}
    {od_class_by an_class_by : Option Addr} {sl_class_by : Array (Option Value)} {oc_class_by kV_class_by dc_class_by pm_class_by cd_class_by ct_class_by : Value}
    {od_class_at an_class_at : Option Addr} {sl_class_at : Array (Option Value)} {oc_class_at kV_class_at dc_class_at pm_class_at cd_class_at ct_class_at : Value}
    {od_need_places an_need_places : Option Addr} {sl_need_places : Array (Option Value)} {oc_need_places kV_need_places dc_need_places pm_need_places cd_need_places ct_need_places : Value}
    {od_need_open an_need_open : Option Addr} {sl_need_open : Array (Option Value)} {oc_need_open kV_need_open dc_need_open pm_need_open cd_need_open ct_need_open : Value}
    {od_steps_in an_steps_in : Option Addr} {sl_steps_in : Array (Option Value)} {oc_steps_in kV_steps_in dc_steps_in pm_steps_in cd_steps_in ct_steps_in : Value}
    {od_size_in an_size_in : Option Addr} {sl_size_in : Array (Option Value)} {oc_size_in kV_size_in dc_size_in pm_size_in cd_size_in ct_size_in : Value}
    {od_count_in an_count_in : Option Addr} {sl_count_in : Array (Option Value)} {oc_count_in kV_count_in dc_count_in pm_count_in cd_count_in ct_count_in : Value}
    {od_need_size an_need_size : Option Addr} {sl_need_size : Array (Option Value)} {oc_need_size kV_need_size dc_need_size pm_need_size cd_need_size ct_need_size : Value}
    {od_step_list an_step_list : Option Addr} {sl_step_list : Array (Option Value)} {oc_step_list kV_step_list dc_step_list pm_step_list cd_step_list ct_step_list : Value}
    {od_common_size an_common_size : Option Addr} {sl_common_size : Array (Option Value)} {oc_common_size kV_common_size dc_common_size pm_common_size cd_common_size ct_common_size : Value}
    {od_count_fillings an_count_fillings : Option Addr} {sl_count_fillings : Array (Option Value)} {oc_count_fillings kV_count_fillings dc_count_fillings pm_count_fillings cd_count_fillings ct_count_fillings : Value}
    {od_nth_filling an_nth_filling : Option Addr} {sl_nth_filling : Array (Option Value)} {oc_nth_filling kV_nth_filling dc_nth_filling pm_nth_filling cd_nth_filling ct_nth_filling : Value}
    {od_index_in an_index_in : Option Addr} {sl_index_in : Array (Option Value)} {oc_index_in kV_index_in dc_index_in pm_index_in cd_index_in ct_index_in : Value}
    {od_filling_index an_filling_index : Option Addr} {sl_filling_index : Array (Option Value)} {oc_filling_index kV_filling_index dc_filling_index pm_filling_index cd_filling_index ct_filling_index : Value}
    {od_vectors_in an_vectors_in : Option Addr} {sl_vectors_in : Array (Option Value)} {oc_vectors_in kV_vectors_in dc_vectors_in pm_vectors_in cd_vectors_in ct_vectors_in : Value}
    {od_triangle an_triangle : Option Addr} {sl_triangle : Array (Option Value)} {oc_triangle kV_triangle dc_triangle pm_triangle cd_triangle ct_triangle : Value}
    {od_summed an_summed : Option Addr} {sl_summed : Array (Option Value)} {oc_summed kV_summed dc_summed pm_summed cd_summed ct_summed : Value}
    {od_need_weights an_need_weights : Option Addr} {sl_need_weights : Array (Option Value)} {oc_need_weights kV_need_weights dc_need_weights pm_need_weights cd_need_weights ct_need_weights : Value}
    {od_sure_sum an_sure_sum : Option Addr} {sl_sure_sum : Array (Option Value)} {oc_sure_sum kV_sure_sum dc_sure_sum pm_sure_sum cd_sure_sum ct_sure_sum : Value}
    {od_l_purse an_l_purse : Option Addr} {sl_l_purse : Array (Option Value)} {oc_l_purse kV_l_purse dc_l_purse pm_l_purse cd_l_purse ct_l_purse : Value}
    {od_l_toss an_l_toss : Option Addr} {sl_l_toss : Array (Option Value)} {oc_l_toss kV_l_toss dc_l_toss pm_l_toss cd_l_toss ct_l_toss : Value}
    {od_l_divisor an_l_divisor : Option Addr} {sl_l_divisor : Array (Option Value)} {oc_l_divisor kV_l_divisor dc_l_divisor pm_l_divisor cd_l_divisor ct_l_divisor : Value}
    {od_l_multiple an_l_multiple : Option Addr} {sl_l_multiple : Array (Option Value)} {oc_l_multiple kV_l_multiple dc_l_multiple pm_l_multiple cd_l_multiple ct_l_multiple : Value}
    {od_l_row an_l_row : Option Addr} {sl_l_row : Array (Option Value)} {oc_l_row kV_l_row dc_l_row pm_l_row cd_l_row ct_l_row : Value}
    {od_l_at an_l_at : Option Addr} {sl_l_at : Array (Option Value)} {oc_l_at kV_l_at dc_l_at pm_l_at cd_l_at ct_l_at : Value}
    {od_l_spots an_l_spots : Option Addr} {sl_l_spots : Array (Option Value)} {oc_l_spots kV_l_spots dc_l_spots pm_l_spots cd_l_spots ct_l_spots : Value}
    {od_l_book an_l_book : Option Addr} {sl_l_book : Array (Option Value)} {oc_l_book kV_l_book dc_l_book pm_l_book cd_l_book ct_l_book : Value}
    {od_l_new an_l_new : Option Addr} {sl_l_new : Array (Option Value)} {oc_l_new kV_l_new dc_l_new pm_l_new cd_l_new ct_l_new : Value}
    {od_l_mixed an_l_mixed : Option Addr} {sl_l_mixed : Array (Option Value)} {oc_l_mixed kV_l_mixed dc_l_mixed pm_l_mixed cd_l_mixed ct_l_mixed : Value}
    {od_l_product an_l_product : Option Addr} {sl_l_product : Array (Option Value)} {oc_l_product kV_l_product dc_l_product pm_l_product cd_l_product ct_l_product : Value}
    {od_l_told_right an_l_told_right : Option Addr} {sl_l_told_right : Array (Option Value)} {oc_l_told_right kV_l_told_right dc_l_told_right pm_l_told_right cd_l_told_right ct_l_told_right : Value}
    {od_l_right an_l_right : Option Addr} {sl_l_right : Array (Option Value)} {oc_l_right kV_l_right dc_l_right pm_l_right cd_l_right ct_l_right : Value}
    {od_law an_law : Option Addr} {sl_law : Array (Option Value)} {oc_law kV_law dc_law pm_law cd_law ct_law : Value}
    (a_is_integer : PySem.W.nsIn K mainGlobals "is_integer" = some (some (.ref f_is_integer))) (l_is_integer : K.lookup f_is_integer = some ⟨oc_is_integer, od_is_integer, .func (PySem.W.fnOf "is_integer" "is_integer" (defArgs st_is_integer) (defBody st_is_integer) (defScope st_is_integer) .none kV_is_integer dc_is_integer pm_is_integer an_is_integer cd_is_integer ct_is_integer), sl_is_integer⟩) (c_is_integer : PySem.W.codeIn K cd_is_integer "is_integer" = true) (k_is_integer : PySem.W.keepIn K (.ref f_is_integer) = true)
    (a_is_told : PySem.W.nsIn K mainGlobals "is_told" = some (some (.ref f_is_told))) (l_is_told : K.lookup f_is_told = some ⟨oc_is_told, od_is_told, .func (PySem.W.fnOf "is_told" "is_told" (defArgs st_is_told) (defBody st_is_told) (defScope st_is_told) .none kV_is_told dc_is_told pm_is_told an_is_told cd_is_told ct_is_told), sl_is_told⟩) (c_is_told : PySem.W.codeIn K cd_is_told "is_told" = true) (k_is_told : PySem.W.keepIn K (.ref f_is_told) = true)
    (a_is_item : PySem.W.nsIn K mainGlobals "is_item" = some (some (.ref f_is_item))) (l_is_item : K.lookup f_is_item = some ⟨oc_is_item, od_is_item, .func (PySem.W.fnOf "is_item" "is_item" (defArgs st_is_item) (defBody st_is_item) (defScope st_is_item) .none kV_is_item dc_is_item pm_is_item an_is_item cd_is_item ct_is_item), sl_is_item⟩) (c_is_item : PySem.W.codeIn K cd_is_item "is_item" = true) (k_is_item : PySem.W.keepIn K (.ref f_is_item) = true)
    (a_is_book : PySem.W.nsIn K mainGlobals "is_book" = some (some (.ref f_is_book))) (l_is_book : K.lookup f_is_book = some ⟨oc_is_book, od_is_book, .func (PySem.W.fnOf "is_book" "is_book" (defArgs st_is_book) (defBody st_is_book) (defScope st_is_book) .none kV_is_book dc_is_book pm_is_book an_is_book cd_is_book ct_is_book), sl_is_book⟩) (c_is_book : PySem.W.codeIn K cd_is_book "is_book" = true) (k_is_book : PySem.W.keepIn K (.ref f_is_book) = true)
    (a_need_book : PySem.W.nsIn K mainGlobals "need_book" = some (some (.ref f_need_book))) (l_need_book : K.lookup f_need_book = some ⟨oc_need_book, od_need_book, .func (PySem.W.fnOf "need_book" "need_book" (defArgs st_need_book) (defBody st_need_book) (defScope st_need_book) .none kV_need_book dc_need_book pm_need_book an_need_book cd_need_book ct_need_book), sl_need_book⟩) (c_need_book : PySem.W.codeIn K cd_need_book "need_book" = true) (k_need_book : PySem.W.keepIn K (.ref f_need_book) = true)
    (a_divisor_of : PySem.W.nsIn K mainGlobals "divisor_of" = some (some (.ref f_divisor_of))) (l_divisor_of : K.lookup f_divisor_of = some ⟨oc_divisor_of, od_divisor_of, .func (PySem.W.fnOf "divisor_of" "divisor_of" (defArgs st_divisor_of) (defBody st_divisor_of) (defScope st_divisor_of) .none kV_divisor_of dc_divisor_of pm_divisor_of an_divisor_of cd_divisor_of ct_divisor_of), sl_divisor_of⟩) (c_divisor_of : PySem.W.codeIn K cd_divisor_of "divisor_of" = true) (k_divisor_of : PySem.W.keepIn K (.ref f_divisor_of) = true)
    (a_multiple_of : PySem.W.nsIn K mainGlobals "multiple_of" = some (some (.ref f_multiple_of))) (l_multiple_of : K.lookup f_multiple_of = some ⟨oc_multiple_of, od_multiple_of, .func (PySem.W.fnOf "multiple_of" "multiple_of" (defArgs st_multiple_of) (defBody st_multiple_of) (defScope st_multiple_of) .none kV_multiple_of dc_multiple_of pm_multiple_of an_multiple_of cd_multiple_of ct_multiple_of), sl_multiple_of⟩) (c_multiple_of : PySem.W.codeIn K cd_multiple_of "multiple_of" = true) (k_multiple_of : PySem.W.keepIn K (.ref f_multiple_of) = true)
    (a_divides : PySem.W.nsIn K mainGlobals "divides" = some (some (.ref f_divides))) (l_divides : K.lookup f_divides = some ⟨oc_divides, od_divides, .func (PySem.W.fnOf "divides" "divides" (defArgs st_divides) (defBody st_divides) (defScope st_divides) .none kV_divides dc_divides pm_divides an_divides cd_divides ct_divides), sl_divides⟩) (c_divides : PySem.W.codeIn K cd_divides "divides" = true) (k_divides : PySem.W.keepIn K (.ref f_divides) = true)
    (a_do_fit : PySem.W.nsIn K mainGlobals "do_fit" = some (some (.ref f_do_fit))) (l_do_fit : K.lookup f_do_fit = some ⟨oc_do_fit, od_do_fit, .func (PySem.W.fnOf "do_fit" "do_fit" (defArgs st_do_fit) (defBody st_do_fit) (defScope st_do_fit) .none kV_do_fit dc_do_fit pm_do_fit an_do_fit cd_do_fit ct_do_fit), sl_do_fit⟩) (c_do_fit : PySem.W.codeIn K cd_do_fit "do_fit" = true) (k_do_fit : PySem.W.keepIn K (.ref f_do_fit) = true)
    (a_conflicts_in : PySem.W.nsIn K mainGlobals "conflicts_in" = some (some (.ref f_conflicts_in))) (l_conflicts_in : K.lookup f_conflicts_in = some ⟨oc_conflicts_in, od_conflicts_in, .func (PySem.W.fnOf "conflicts_in" "conflicts_in" (defArgs st_conflicts_in) (defBody st_conflicts_in) (defScope st_conflicts_in) .none kV_conflicts_in dc_conflicts_in pm_conflicts_in an_conflicts_in cd_conflicts_in ct_conflicts_in), sl_conflicts_in⟩) (c_conflicts_in : PySem.W.codeIn K cd_conflicts_in "conflicts_in" = true) (k_conflicts_in : PySem.W.keepIn K (.ref f_conflicts_in) = true)
    (a_conflict_in : PySem.W.nsIn K mainGlobals "conflict_in" = some (some (.ref f_conflict_in))) (l_conflict_in : K.lookup f_conflict_in = some ⟨oc_conflict_in, od_conflict_in, .func (PySem.W.fnOf "conflict_in" "conflict_in" (defArgs st_conflict_in) (defBody st_conflict_in) (defScope st_conflict_in) .none kV_conflict_in dc_conflict_in pm_conflict_in an_conflict_in cd_conflict_in ct_conflict_in), sl_conflict_in⟩) (c_conflict_in : PySem.W.codeIn K cd_conflict_in "conflict_in" = true) (k_conflict_in : PySem.W.keepIn K (.ref f_conflict_in) = true)
    (a_need_fitting : PySem.W.nsIn K mainGlobals "need_fitting" = some (some (.ref f_need_fitting))) (l_need_fitting : K.lookup f_need_fitting = some ⟨oc_need_fitting, od_need_fitting, .func (PySem.W.fnOf "need_fitting" "need_fitting" (defArgs st_need_fitting) (defBody st_need_fitting) (defScope st_need_fitting) .none kV_need_fitting dc_need_fitting pm_need_fitting an_need_fitting cd_need_fitting ct_need_fitting), sl_need_fitting⟩) (c_need_fitting : PySem.W.codeIn K cd_need_fitting "need_fitting" = true) (k_need_fitting : PySem.W.keepIn K (.ref f_need_fitting) = true)
    (a_need_possible : PySem.W.nsIn K mainGlobals "need_possible" = some (some (.ref f_need_possible))) (l_need_possible : K.lookup f_need_possible = some ⟨oc_need_possible, od_need_possible, .func (PySem.W.fnOf "need_possible" "need_possible" (defArgs st_need_possible) (defBody st_need_possible) (defScope st_need_possible) .none kV_need_possible dc_need_possible pm_need_possible an_need_possible cd_need_possible ct_need_possible), sl_need_possible⟩) (c_need_possible : PySem.W.codeIn K cd_need_possible "need_possible" = true) (k_need_possible : PySem.W.keepIn K (.ref f_need_possible) = true)
    (a_conflict_of : PySem.W.nsIn K mainGlobals "conflict_of" = some (some (.ref f_conflict_of))) (l_conflict_of : K.lookup f_conflict_of = some ⟨oc_conflict_of, od_conflict_of, .func (PySem.W.fnOf "conflict_of" "conflict_of" (defArgs st_conflict_of) (defBody st_conflict_of) (defScope st_conflict_of) .none kV_conflict_of dc_conflict_of pm_conflict_of an_conflict_of cd_conflict_of ct_conflict_of), sl_conflict_of⟩) (c_conflict_of : PySem.W.codeIn K cd_conflict_of "conflict_of" = true) (k_conflict_of : PySem.W.keepIn K (.ref f_conflict_of) = true)
    (a_inverse_of : PySem.W.nsIn K mainGlobals "inverse_of" = some (some (.ref f_inverse_of))) (l_inverse_of : K.lookup f_inverse_of = some ⟨oc_inverse_of, od_inverse_of, .func (PySem.W.fnOf "inverse_of" "inverse_of" (defArgs st_inverse_of) (defBody st_inverse_of) (defScope st_inverse_of) .none kV_inverse_of dc_inverse_of pm_inverse_of an_inverse_of cd_inverse_of ct_inverse_of), sl_inverse_of⟩) (c_inverse_of : PySem.W.codeIn K cd_inverse_of "inverse_of" = true) (k_inverse_of : PySem.W.keepIn K (.ref f_inverse_of) = true)
    (a_met : PySem.W.nsIn K mainGlobals "met" = some (some (.ref f_met))) (l_met : K.lookup f_met = some ⟨oc_met, od_met, .func (PySem.W.fnOf "met" "met" (defArgs st_met) (defBody st_met) (defScope st_met) .none kV_met dc_met pm_met an_met cd_met ct_met), sl_met⟩) (c_met : PySem.W.codeIn K cd_met "met" = true) (k_met : PySem.W.keepIn K (.ref f_met) = true)
    (a_class_by : PySem.W.nsIn K mainGlobals "class_by" = some (some (.ref f_class_by))) (l_class_by : K.lookup f_class_by = some ⟨oc_class_by, od_class_by, .func (PySem.W.fnOf "class_by" "class_by" (defArgs st_class_by) (defBody st_class_by) (defScope st_class_by) .none kV_class_by dc_class_by pm_class_by an_class_by cd_class_by ct_class_by), sl_class_by⟩) (c_class_by : PySem.W.codeIn K cd_class_by "class_by" = true) (k_class_by : PySem.W.keepIn K (.ref f_class_by) = true)
    (a_class_at : PySem.W.nsIn K mainGlobals "class_at" = some (some (.ref f_class_at))) (l_class_at : K.lookup f_class_at = some ⟨oc_class_at, od_class_at, .func (PySem.W.fnOf "class_at" "class_at" (defArgs st_class_at) (defBody st_class_at) (defScope st_class_at) .none kV_class_at dc_class_at pm_class_at an_class_at cd_class_at ct_class_at), sl_class_at⟩) (c_class_at : PySem.W.codeIn K cd_class_at "class_at" = true) (k_class_at : PySem.W.keepIn K (.ref f_class_at) = true)
    (a_need_places : PySem.W.nsIn K mainGlobals "need_places" = some (some (.ref f_need_places))) (l_need_places : K.lookup f_need_places = some ⟨oc_need_places, od_need_places, .func (PySem.W.fnOf "need_places" "need_places" (defArgs st_need_places) (defBody st_need_places) (defScope st_need_places) .none kV_need_places dc_need_places pm_need_places an_need_places cd_need_places ct_need_places), sl_need_places⟩) (c_need_places : PySem.W.codeIn K cd_need_places "need_places" = true) (k_need_places : PySem.W.keepIn K (.ref f_need_places) = true)
    (a_need_open : PySem.W.nsIn K mainGlobals "need_open" = some (some (.ref f_need_open))) (l_need_open : K.lookup f_need_open = some ⟨oc_need_open, od_need_open, .func (PySem.W.fnOf "need_open" "need_open" (defArgs st_need_open) (defBody st_need_open) (defScope st_need_open) .none kV_need_open dc_need_open pm_need_open an_need_open cd_need_open ct_need_open), sl_need_open⟩) (c_need_open : PySem.W.codeIn K cd_need_open "need_open" = true) (k_need_open : PySem.W.keepIn K (.ref f_need_open) = true)
    (a_steps_in : PySem.W.nsIn K mainGlobals "steps_in" = some (some (.ref f_steps_in))) (l_steps_in : K.lookup f_steps_in = some ⟨oc_steps_in, od_steps_in, .func (PySem.W.fnOf "steps_in" "steps_in" (defArgs st_steps_in) (defBody st_steps_in) (defScope st_steps_in) .none kV_steps_in dc_steps_in pm_steps_in an_steps_in cd_steps_in ct_steps_in), sl_steps_in⟩) (c_steps_in : PySem.W.codeIn K cd_steps_in "steps_in" = true) (k_steps_in : PySem.W.keepIn K (.ref f_steps_in) = true)
    (a_size_in : PySem.W.nsIn K mainGlobals "size_in" = some (some (.ref f_size_in))) (l_size_in : K.lookup f_size_in = some ⟨oc_size_in, od_size_in, .func (PySem.W.fnOf "size_in" "size_in" (defArgs st_size_in) (defBody st_size_in) (defScope st_size_in) .none kV_size_in dc_size_in pm_size_in an_size_in cd_size_in ct_size_in), sl_size_in⟩) (c_size_in : PySem.W.codeIn K cd_size_in "size_in" = true) (k_size_in : PySem.W.keepIn K (.ref f_size_in) = true)
    (a_count_in : PySem.W.nsIn K mainGlobals "count_in" = some (some (.ref f_count_in))) (l_count_in : K.lookup f_count_in = some ⟨oc_count_in, od_count_in, .func (PySem.W.fnOf "count_in" "count_in" (defArgs st_count_in) (defBody st_count_in) (defScope st_count_in) .none kV_count_in dc_count_in pm_count_in an_count_in cd_count_in ct_count_in), sl_count_in⟩) (c_count_in : PySem.W.codeIn K cd_count_in "count_in" = true) (k_count_in : PySem.W.keepIn K (.ref f_count_in) = true)
    (a_need_size : PySem.W.nsIn K mainGlobals "need_size" = some (some (.ref f_need_size))) (l_need_size : K.lookup f_need_size = some ⟨oc_need_size, od_need_size, .func (PySem.W.fnOf "need_size" "need_size" (defArgs st_need_size) (defBody st_need_size) (defScope st_need_size) .none kV_need_size dc_need_size pm_need_size an_need_size cd_need_size ct_need_size), sl_need_size⟩) (c_need_size : PySem.W.codeIn K cd_need_size "need_size" = true) (k_need_size : PySem.W.keepIn K (.ref f_need_size) = true)
    (a_step_list : PySem.W.nsIn K mainGlobals "step_list" = some (some (.ref f_step_list))) (l_step_list : K.lookup f_step_list = some ⟨oc_step_list, od_step_list, .func (PySem.W.fnOf "step_list" "step_list" (defArgs st_step_list) (defBody st_step_list) (defScope st_step_list) .none kV_step_list dc_step_list pm_step_list an_step_list cd_step_list ct_step_list), sl_step_list⟩) (c_step_list : PySem.W.codeIn K cd_step_list "step_list" = true) (k_step_list : PySem.W.keepIn K (.ref f_step_list) = true)
    (a_common_size : PySem.W.nsIn K mainGlobals "common_size" = some (some (.ref f_common_size))) (l_common_size : K.lookup f_common_size = some ⟨oc_common_size, od_common_size, .func (PySem.W.fnOf "common_size" "common_size" (defArgs st_common_size) (defBody st_common_size) (defScope st_common_size) .none kV_common_size dc_common_size pm_common_size an_common_size cd_common_size ct_common_size), sl_common_size⟩) (c_common_size : PySem.W.codeIn K cd_common_size "common_size" = true) (k_common_size : PySem.W.keepIn K (.ref f_common_size) = true)
    (a_count_fillings : PySem.W.nsIn K mainGlobals "count_fillings" = some (some (.ref f_count_fillings))) (l_count_fillings : K.lookup f_count_fillings = some ⟨oc_count_fillings, od_count_fillings, .func (PySem.W.fnOf "count_fillings" "count_fillings" (defArgs st_count_fillings) (defBody st_count_fillings) (defScope st_count_fillings) .none kV_count_fillings dc_count_fillings pm_count_fillings an_count_fillings cd_count_fillings ct_count_fillings), sl_count_fillings⟩) (c_count_fillings : PySem.W.codeIn K cd_count_fillings "count_fillings" = true) (k_count_fillings : PySem.W.keepIn K (.ref f_count_fillings) = true)
    (a_nth_filling : PySem.W.nsIn K mainGlobals "nth_filling" = some (some (.ref f_nth_filling))) (l_nth_filling : K.lookup f_nth_filling = some ⟨oc_nth_filling, od_nth_filling, .func (PySem.W.fnOf "nth_filling" "nth_filling" (defArgs st_nth_filling) (defBody st_nth_filling) (defScope st_nth_filling) .none kV_nth_filling dc_nth_filling pm_nth_filling an_nth_filling cd_nth_filling ct_nth_filling), sl_nth_filling⟩) (c_nth_filling : PySem.W.codeIn K cd_nth_filling "nth_filling" = true) (k_nth_filling : PySem.W.keepIn K (.ref f_nth_filling) = true)
    (a_index_in : PySem.W.nsIn K mainGlobals "index_in" = some (some (.ref f_index_in))) (l_index_in : K.lookup f_index_in = some ⟨oc_index_in, od_index_in, .func (PySem.W.fnOf "index_in" "index_in" (defArgs st_index_in) (defBody st_index_in) (defScope st_index_in) .none kV_index_in dc_index_in pm_index_in an_index_in cd_index_in ct_index_in), sl_index_in⟩) (c_index_in : PySem.W.codeIn K cd_index_in "index_in" = true) (k_index_in : PySem.W.keepIn K (.ref f_index_in) = true)
    (a_filling_index : PySem.W.nsIn K mainGlobals "filling_index" = some (some (.ref f_filling_index))) (l_filling_index : K.lookup f_filling_index = some ⟨oc_filling_index, od_filling_index, .func (PySem.W.fnOf "filling_index" "filling_index" (defArgs st_filling_index) (defBody st_filling_index) (defScope st_filling_index) .none kV_filling_index dc_filling_index pm_filling_index an_filling_index cd_filling_index ct_filling_index), sl_filling_index⟩) (c_filling_index : PySem.W.codeIn K cd_filling_index "filling_index" = true) (k_filling_index : PySem.W.keepIn K (.ref f_filling_index) = true)
    (a_vectors_in : PySem.W.nsIn K mainGlobals "vectors_in" = some (some (.ref f_vectors_in))) (l_vectors_in : K.lookup f_vectors_in = some ⟨oc_vectors_in, od_vectors_in, .func (PySem.W.fnOf "vectors_in" "vectors_in" (defArgs st_vectors_in) (defBody st_vectors_in) (defScope st_vectors_in) .none kV_vectors_in dc_vectors_in pm_vectors_in an_vectors_in cd_vectors_in ct_vectors_in), sl_vectors_in⟩) (c_vectors_in : PySem.W.codeIn K cd_vectors_in "vectors_in" = true) (k_vectors_in : PySem.W.keepIn K (.ref f_vectors_in) = true)
    (a_triangle : PySem.W.nsIn K mainGlobals "triangle" = some (some (.ref f_triangle))) (l_triangle : K.lookup f_triangle = some ⟨oc_triangle, od_triangle, .func (PySem.W.fnOf "triangle" "triangle" (defArgs st_triangle) (defBody st_triangle) (defScope st_triangle) .none kV_triangle dc_triangle pm_triangle an_triangle cd_triangle ct_triangle), sl_triangle⟩) (c_triangle : PySem.W.codeIn K cd_triangle "triangle" = true) (k_triangle : PySem.W.keepIn K (.ref f_triangle) = true)
    (a_summed : PySem.W.nsIn K mainGlobals "summed" = some (some (.ref f_summed))) (l_summed : K.lookup f_summed = some ⟨oc_summed, od_summed, .func (PySem.W.fnOf "summed" "summed" (defArgs st_summed) (defBody st_summed) (defScope st_summed) .none kV_summed dc_summed pm_summed an_summed cd_summed ct_summed), sl_summed⟩) (c_summed : PySem.W.codeIn K cd_summed "summed" = true) (k_summed : PySem.W.keepIn K (.ref f_summed) = true)
    (a_need_weights : PySem.W.nsIn K mainGlobals "need_weights" = some (some (.ref f_need_weights))) (l_need_weights : K.lookup f_need_weights = some ⟨oc_need_weights, od_need_weights, .func (PySem.W.fnOf "need_weights" "need_weights" (defArgs st_need_weights) (defBody st_need_weights) (defScope st_need_weights) .none kV_need_weights dc_need_weights pm_need_weights an_need_weights cd_need_weights ct_need_weights), sl_need_weights⟩) (c_need_weights : PySem.W.codeIn K cd_need_weights "need_weights" = true) (k_need_weights : PySem.W.keepIn K (.ref f_need_weights) = true)
    (a_sure_sum : PySem.W.nsIn K mainGlobals "sure_sum" = some (some (.ref f_sure_sum))) (l_sure_sum : K.lookup f_sure_sum = some ⟨oc_sure_sum, od_sure_sum, .func (PySem.W.fnOf "sure_sum" "sure_sum" (defArgs st_sure_sum) (defBody st_sure_sum) (defScope st_sure_sum) .none kV_sure_sum dc_sure_sum pm_sure_sum an_sure_sum cd_sure_sum ct_sure_sum), sl_sure_sum⟩) (c_sure_sum : PySem.W.codeIn K cd_sure_sum "sure_sum" = true) (k_sure_sum : PySem.W.keepIn K (.ref f_sure_sum) = true)
    (a_l_purse : PySem.W.nsIn K mainGlobals "_law_purse" = some (some (.ref f_l_purse))) (l_l_purse : K.lookup f_l_purse = some ⟨oc_l_purse, od_l_purse, .func (PySem.W.fnOf "_law_purse" "_law_purse" (defArgs st_l_purse) (defBody st_l_purse) (defScope st_l_purse) .none kV_l_purse dc_l_purse pm_l_purse an_l_purse cd_l_purse ct_l_purse), sl_l_purse⟩) (c_l_purse : PySem.W.codeIn K cd_l_purse "_law_purse" = true) (k_l_purse : PySem.W.keepIn K (.ref f_l_purse) = true)
    (a_l_toss : PySem.W.nsIn K mainGlobals "_law_toss" = some (some (.ref f_l_toss))) (l_l_toss : K.lookup f_l_toss = some ⟨oc_l_toss, od_l_toss, .func (PySem.W.fnOf "_law_toss" "_law_toss" (defArgs st_l_toss) (defBody st_l_toss) (defScope st_l_toss) .none kV_l_toss dc_l_toss pm_l_toss an_l_toss cd_l_toss ct_l_toss), sl_l_toss⟩) (c_l_toss : PySem.W.codeIn K cd_l_toss "_law_toss" = true) (k_l_toss : PySem.W.keepIn K (.ref f_l_toss) = true)
    (a_l_divisor : PySem.W.nsIn K mainGlobals "_law_divisor" = some (some (.ref f_l_divisor))) (l_l_divisor : K.lookup f_l_divisor = some ⟨oc_l_divisor, od_l_divisor, .func (PySem.W.fnOf "_law_divisor" "_law_divisor" (defArgs st_l_divisor) (defBody st_l_divisor) (defScope st_l_divisor) .none kV_l_divisor dc_l_divisor pm_l_divisor an_l_divisor cd_l_divisor ct_l_divisor), sl_l_divisor⟩) (c_l_divisor : PySem.W.codeIn K cd_l_divisor "_law_divisor" = true) (k_l_divisor : PySem.W.keepIn K (.ref f_l_divisor) = true)
    (a_l_multiple : PySem.W.nsIn K mainGlobals "_law_multiple" = some (some (.ref f_l_multiple))) (l_l_multiple : K.lookup f_l_multiple = some ⟨oc_l_multiple, od_l_multiple, .func (PySem.W.fnOf "_law_multiple" "_law_multiple" (defArgs st_l_multiple) (defBody st_l_multiple) (defScope st_l_multiple) .none kV_l_multiple dc_l_multiple pm_l_multiple an_l_multiple cd_l_multiple ct_l_multiple), sl_l_multiple⟩) (c_l_multiple : PySem.W.codeIn K cd_l_multiple "_law_multiple" = true) (k_l_multiple : PySem.W.keepIn K (.ref f_l_multiple) = true)
    (a_l_row : PySem.W.nsIn K mainGlobals "_law_row" = some (some (.ref f_l_row))) (l_l_row : K.lookup f_l_row = some ⟨oc_l_row, od_l_row, .func (PySem.W.fnOf "_law_row" "_law_row" (defArgs st_l_row) (defBody st_l_row) (defScope st_l_row) .none kV_l_row dc_l_row pm_l_row an_l_row cd_l_row ct_l_row), sl_l_row⟩) (c_l_row : PySem.W.codeIn K cd_l_row "_law_row" = true) (k_l_row : PySem.W.keepIn K (.ref f_l_row) = true)
    (a_l_at : PySem.W.nsIn K mainGlobals "_law_at" = some (some (.ref f_l_at))) (l_l_at : K.lookup f_l_at = some ⟨oc_l_at, od_l_at, .func (PySem.W.fnOf "_law_at" "_law_at" (defArgs st_l_at) (defBody st_l_at) (defScope st_l_at) .none kV_l_at dc_l_at pm_l_at an_l_at cd_l_at ct_l_at), sl_l_at⟩) (c_l_at : PySem.W.codeIn K cd_l_at "_law_at" = true) (k_l_at : PySem.W.keepIn K (.ref f_l_at) = true)
    (a_l_spots : PySem.W.nsIn K mainGlobals "_law_spots" = some (some (.ref f_l_spots))) (l_l_spots : K.lookup f_l_spots = some ⟨oc_l_spots, od_l_spots, .func (PySem.W.fnOf "_law_spots" "_law_spots" (defArgs st_l_spots) (defBody st_l_spots) (defScope st_l_spots) .none kV_l_spots dc_l_spots pm_l_spots an_l_spots cd_l_spots ct_l_spots), sl_l_spots⟩) (c_l_spots : PySem.W.codeIn K cd_l_spots "_law_spots" = true) (k_l_spots : PySem.W.keepIn K (.ref f_l_spots) = true)
    (a_l_book : PySem.W.nsIn K mainGlobals "_law_book" = some (some (.ref f_l_book))) (l_l_book : K.lookup f_l_book = some ⟨oc_l_book, od_l_book, .func (PySem.W.fnOf "_law_book" "_law_book" (defArgs st_l_book) (defBody st_l_book) (defScope st_l_book) .none kV_l_book dc_l_book pm_l_book an_l_book cd_l_book ct_l_book), sl_l_book⟩) (c_l_book : PySem.W.codeIn K cd_l_book "_law_book" = true) (k_l_book : PySem.W.keepIn K (.ref f_l_book) = true)
    (a_l_new : PySem.W.nsIn K mainGlobals "_law_new" = some (some (.ref f_l_new))) (l_l_new : K.lookup f_l_new = some ⟨oc_l_new, od_l_new, .func (PySem.W.fnOf "_law_new" "_law_new" (defArgs st_l_new) (defBody st_l_new) (defScope st_l_new) .none kV_l_new dc_l_new pm_l_new an_l_new cd_l_new ct_l_new), sl_l_new⟩) (c_l_new : PySem.W.codeIn K cd_l_new "_law_new" = true) (k_l_new : PySem.W.keepIn K (.ref f_l_new) = true)
    (a_l_mixed : PySem.W.nsIn K mainGlobals "_law_mixed" = some (some (.ref f_l_mixed))) (l_l_mixed : K.lookup f_l_mixed = some ⟨oc_l_mixed, od_l_mixed, .func (PySem.W.fnOf "_law_mixed" "_law_mixed" (defArgs st_l_mixed) (defBody st_l_mixed) (defScope st_l_mixed) .none kV_l_mixed dc_l_mixed pm_l_mixed an_l_mixed cd_l_mixed ct_l_mixed), sl_l_mixed⟩) (c_l_mixed : PySem.W.codeIn K cd_l_mixed "_law_mixed" = true) (k_l_mixed : PySem.W.keepIn K (.ref f_l_mixed) = true)
    (a_l_product : PySem.W.nsIn K mainGlobals "_law_product" = some (some (.ref f_l_product))) (l_l_product : K.lookup f_l_product = some ⟨oc_l_product, od_l_product, .func (PySem.W.fnOf "_law_product" "_law_product" (defArgs st_l_product) (defBody st_l_product) (defScope st_l_product) .none kV_l_product dc_l_product pm_l_product an_l_product cd_l_product ct_l_product), sl_l_product⟩) (c_l_product : PySem.W.codeIn K cd_l_product "_law_product" = true) (k_l_product : PySem.W.keepIn K (.ref f_l_product) = true)
    (a_l_told_right : PySem.W.nsIn K mainGlobals "_law_told_right" = some (some (.ref f_l_told_right))) (l_l_told_right : K.lookup f_l_told_right = some ⟨oc_l_told_right, od_l_told_right, .func (PySem.W.fnOf "_law_told_right" "_law_told_right" (defArgs st_l_told_right) (defBody st_l_told_right) (defScope st_l_told_right) .none kV_l_told_right dc_l_told_right pm_l_told_right an_l_told_right cd_l_told_right ct_l_told_right), sl_l_told_right⟩) (c_l_told_right : PySem.W.codeIn K cd_l_told_right "_law_told_right" = true) (k_l_told_right : PySem.W.keepIn K (.ref f_l_told_right) = true)
    (a_l_right : PySem.W.nsIn K mainGlobals "_law_right" = some (some (.ref f_l_right))) (l_l_right : K.lookup f_l_right = some ⟨oc_l_right, od_l_right, .func (PySem.W.fnOf "_law_right" "_law_right" (defArgs st_l_right) (defBody st_l_right) (defScope st_l_right) .none kV_l_right dc_l_right pm_l_right an_l_right cd_l_right ct_l_right), sl_l_right⟩) (c_l_right : PySem.W.codeIn K cd_l_right "_law_right" = true) (k_l_right : PySem.W.keepIn K (.ref f_l_right) = true)
    (a_law : PySem.W.nsIn K mainGlobals "law" = some (some (.ref f_law))) (l_law : K.lookup f_law = some ⟨oc_law, od_law, .func (PySem.W.fnOf "law" "law" (defArgs st_law) (defBody st_law) (defScope st_law) .none kV_law dc_law pm_law an_law cd_law ct_law), sl_law⟩) (c_law : PySem.W.codeIn K cd_law "law" = true) (k_law : PySem.W.keepIn K (.ref f_law) = true)
    (z_int : PySem.W.nsIn K mainGlobals "int" = some none)
    (z_len : PySem.W.nsIn K mainGlobals "len" = some none)
    (z_enumerate : PySem.W.nsIn K mainGlobals "enumerate" = some none)
    (z_abs : PySem.W.nsIn K mainGlobals "abs" = some none)
    (z_range : PySem.W.nsIn K mainGlobals "range" = some none)
    (z_isinstance : PySem.W.nsIn K mainGlobals "isinstance" = some none)
    (z_all : PySem.W.nsIn K mainGlobals "all" = some none)
    (z_bool : PySem.W.nsIn K mainGlobals "bool" = some none)
    (z_list : PySem.W.nsIn K mainGlobals "list" = some none)
    (z_tuple : PySem.W.nsIn K mainGlobals "tuple" = some none)
    (z_zip : PySem.W.nsIn K mainGlobals "zip" = some none)
    (z_max : PySem.W.nsIn K mainGlobals "max" = some none)
    (z_min : PySem.W.nsIn K mainGlobals "min" = some none)
    (z_set : PySem.W.nsIn K mainGlobals "set" = some none)
    (z_sorted : PySem.W.nsIn K mainGlobals "sorted" = some none)
    (z_sum : PySem.W.nsIn K mainGlobals "sum" = some none)
    {t_MOST : Tok} (n_MOST : PySem.W.nsIn K mainGlobals "MOST" = some (some (.int (1000000000000000000000000000000) t_MOST)))
    {t_MOST_ITEMS : Tok} (n_MOST_ITEMS : PySem.W.nsIn K mainGlobals "MOST_ITEMS" = some (some (.int (24) t_MOST_ITEMS)))
    {t_MOST_PLACES : Tok} (n_MOST_PLACES : PySem.W.nsIn K mainGlobals "MOST_PLACES" = some (some (.int (8) t_MOST_PLACES)))
    {t_MOST_ROUNDS : Tok} (n_MOST_ROUNDS : PySem.W.nsIn K mainGlobals "MOST_ROUNDS" = some (some (.int (1000000000000000000000000000000) t_MOST_ROUNDS)))
    : ∃ fd : FuncData, (∀ (s : Shared) (v : Value), BindsTo s fd ⟨[v], []⟩ [("_law_script", v)]) ∧ ∀ base : Heap, K.In base → base.Ns mainGlobals mg → FnOk l.prog w K mg base (L2.CX l.prog w) 10 fa fd ["_law_script"] (spG K TLaw) := by
  have e := hfa.symm.trans (PySem.W.mg_of X G a_law)
  cases e
  have F_is_integer := fun_mk (st := st_is_integer) l_is_integer c_is_integer k_is_integer
  have m_is_integer := PySem.W.mg_of X G a_is_integer
  have b_is_integer := F_is_integer.binds (ps := ["thing"]) fun _ _ _ _ _ _ us hl => match us, hl with | [_], _ => rfl
  have F_is_told := fun_mk (st := st_is_told) l_is_told c_is_told k_is_told
  have m_is_told := PySem.W.mg_of X G a_is_told
  have b_is_told := F_is_told.binds (ps := ["thing"]) fun _ _ _ _ _ _ us hl => match us, hl with | [_], _ => rfl
  have F_is_item := fun_mk (st := st_is_item) l_is_item c_is_item k_is_item
  have m_is_item := PySem.W.mg_of X G a_is_item
  have b_is_item := F_is_item.binds (ps := ["thing"]) fun _ _ _ _ _ _ us hl => match us, hl with | [_], _ => rfl
  have F_is_book := fun_mk (st := st_is_book) l_is_book c_is_book k_is_book
  have m_is_book := PySem.W.mg_of X G a_is_book
  have b_is_book := F_is_book.binds (ps := ["thing"]) fun _ _ _ _ _ _ us hl => match us, hl with | [_], _ => rfl
  have F_need_book := fun_mk (st := st_need_book) l_need_book c_need_book k_need_book
  have m_need_book := PySem.W.mg_of X G a_need_book
  have b_need_book := F_need_book.binds (ps := ["book"]) fun _ _ _ _ _ _ us hl => match us, hl with | [_], _ => rfl
  have F_divisor_of := fun_mk (st := st_divisor_of) l_divisor_of c_divisor_of k_divisor_of
  have m_divisor_of := PySem.W.mg_of X G a_divisor_of
  have b_divisor_of := F_divisor_of.binds (ps := ["one", "other"]) fun _ _ _ _ _ _ us hl => match us, hl with | [_, _], _ => rfl
  have F_multiple_of := fun_mk (st := st_multiple_of) l_multiple_of c_multiple_of k_multiple_of
  have m_multiple_of := PySem.W.mg_of X G a_multiple_of
  have b_multiple_of := F_multiple_of.binds (ps := ["numbers"]) fun _ _ _ _ _ _ us hl => match us, hl with | [_], _ => rfl
  have F_divides := fun_mk (st := st_divides) l_divides c_divides k_divides
  have m_divides := PySem.W.mg_of X G a_divides
  have b_divides := F_divides.binds (ps := ["number", "other"]) fun _ _ _ _ _ _ us hl => match us, hl with | [_, _], _ => rfl
  have F_do_fit := fun_mk (st := st_do_fit) l_do_fit c_do_fit k_do_fit
  have m_do_fit := PySem.W.mg_of X G a_do_fit
  have b_do_fit := F_do_fit.binds (ps := ["one", "other"]) fun _ _ _ _ _ _ us hl => match us, hl with | [_, _], _ => rfl
  have F_conflicts_in := fun_mk (st := st_conflicts_in) l_conflicts_in c_conflicts_in k_conflicts_in
  have m_conflicts_in := PySem.W.mg_of X G a_conflicts_in
  have b_conflicts_in := F_conflicts_in.binds (ps := ["book"]) fun _ _ _ _ _ _ us hl => match us, hl with | [_], _ => rfl
  have F_conflict_in := fun_mk (st := st_conflict_in) l_conflict_in c_conflict_in k_conflict_in
  have m_conflict_in := PySem.W.mg_of X G a_conflict_in
  have b_conflict_in := F_conflict_in.binds (ps := ["book"]) fun _ _ _ _ _ _ us hl => match us, hl with | [_], _ => rfl
  have F_need_fitting := fun_mk (st := st_need_fitting) l_need_fitting c_need_fitting k_need_fitting
  have m_need_fitting := PySem.W.mg_of X G a_need_fitting
  have b_need_fitting := F_need_fitting.binds (ps := ["book"]) fun _ _ _ _ _ _ us hl => match us, hl with | [_], _ => rfl
  have F_need_possible := fun_mk (st := st_need_possible) l_need_possible c_need_possible k_need_possible
  have m_need_possible := PySem.W.mg_of X G a_need_possible
  have b_need_possible := F_need_possible.binds (ps := ["book"]) fun _ _ _ _ _ _ us hl => match us, hl with | [_], _ => rfl
  have F_conflict_of := fun_mk (st := st_conflict_of) l_conflict_of c_conflict_of k_conflict_of
  have m_conflict_of := PySem.W.mg_of X G a_conflict_of
  have b_conflict_of := F_conflict_of.binds (ps := ["book"]) fun _ _ _ _ _ _ us hl => match us, hl with | [_], _ => rfl
  have F_inverse_of := fun_mk (st := st_inverse_of) l_inverse_of c_inverse_of k_inverse_of
  have m_inverse_of := PySem.W.mg_of X G a_inverse_of
  have b_inverse_of := F_inverse_of.binds (ps := ["number", "modulus"]) fun _ _ _ _ _ _ us hl => match us, hl with | [_, _], _ => rfl
  have F_met := fun_mk (st := st_met) l_met c_met k_met
  have m_met := PySem.W.mg_of X G a_met
  have b_met := F_met.binds (ps := ["one", "other"]) fun _ _ _ _ _ _ us hl => match us, hl with | [_, _], _ => rfl
  have F_class_by := fun_mk (st := st_class_by) l_class_by c_class_by k_class_by
  have m_class_by := PySem.W.mg_of X G a_class_by
  have b_class_by := F_class_by.binds (ps := ["items", "place"]) fun _ _ _ _ _ _ us hl => match us, hl with | [_, _], _ => rfl
  have F_class_at := fun_mk (st := st_class_at) l_class_at c_class_at k_class_at
  have m_class_at := PySem.W.mg_of X G a_class_at
  have b_class_at := F_class_at.binds (ps := ["book", "place"]) fun _ _ _ _ _ _ us hl => match us, hl with | [_, _], _ => rfl
  have F_need_places := fun_mk (st := st_need_places) l_need_places c_need_places k_need_places
  have m_need_places := PySem.W.mg_of X G a_need_places
  have b_need_places := F_need_places.binds (ps := ["book", "places"]) fun _ _ _ _ _ _ us hl => match us, hl with | [_, _], _ => rfl
  have F_need_open := fun_mk (st := st_need_open) l_need_open c_need_open k_need_open
  have m_need_open := PySem.W.mg_of X G a_need_open
  have b_need_open := F_need_open.binds (ps := ["book", "places"]) fun _ _ _ _ _ _ us hl => match us, hl with | [_, _], _ => rfl
  have F_steps_in := fun_mk (st := st_steps_in) l_steps_in c_steps_in k_steps_in
  have m_steps_in := PySem.W.mg_of X G a_steps_in
  have b_steps_in := F_steps_in.binds (ps := ["book", "places"]) fun _ _ _ _ _ _ us hl => match us, hl with | [_, _], _ => rfl
  have F_size_in := fun_mk (st := st_size_in) l_size_in c_size_in k_size_in
  have m_size_in := PySem.W.mg_of X G a_size_in
  have b_size_in := F_size_in.binds (ps := ["book", "places"]) fun _ _ _ _ _ _ us hl => match us, hl with | [_, _], _ => rfl
  have F_count_in := fun_mk (st := st_count_in) l_count_in c_count_in k_count_in
  have m_count_in := PySem.W.mg_of X G a_count_in
  have b_count_in := F_count_in.binds (ps := ["steps", "size"]) fun _ _ _ _ _ _ us hl => match us, hl with | [_, _], _ => rfl
  have F_need_size := fun_mk (st := st_need_size) l_need_size c_need_size k_need_size
  have m_need_size := PySem.W.mg_of X G a_need_size
  have b_need_size := F_need_size.binds (ps := ["book", "places", "size"]) fun _ _ _ _ _ _ us hl => match us, hl with | [_, _, _], _ => rfl
  have F_step_list := fun_mk (st := st_step_list) l_step_list c_step_list k_step_list
  have m_step_list := PySem.W.mg_of X G a_step_list
  have b_step_list := F_step_list.binds (ps := ["book", "places"]) fun _ _ _ _ _ _ us hl => match us, hl with | [_, _], _ => rfl
  have F_common_size := fun_mk (st := st_common_size) l_common_size c_common_size k_common_size
  have m_common_size := PySem.W.mg_of X G a_common_size
  have b_common_size := F_common_size.binds (ps := ["book", "places"]) fun _ _ _ _ _ _ us hl => match us, hl with | [_, _], _ => rfl
  have F_count_fillings := fun_mk (st := st_count_fillings) l_count_fillings c_count_fillings k_count_fillings
  have m_count_fillings := PySem.W.mg_of X G a_count_fillings
  have b_count_fillings := F_count_fillings.binds (ps := ["book", "places", "size"]) fun _ _ _ _ _ _ us hl => match us, hl with | [_, _, _], _ => rfl
  have F_nth_filling := fun_mk (st := st_nth_filling) l_nth_filling c_nth_filling k_nth_filling
  have m_nth_filling := PySem.W.mg_of X G a_nth_filling
  have b_nth_filling := F_nth_filling.binds (ps := ["book", "places", "size", "index"]) fun _ _ _ _ _ _ us hl => match us, hl with | [_, _, _, _], _ => rfl
  have F_index_in := fun_mk (st := st_index_in) l_index_in c_index_in k_index_in
  have m_index_in := PySem.W.mg_of X G a_index_in
  have b_index_in := F_index_in.binds (ps := ["book", "places", "steps", "size", "values"]) fun _ _ _ _ _ _ us hl => match us, hl with | [_, _, _, _, _], _ => rfl
  have F_filling_index := fun_mk (st := st_filling_index) l_filling_index c_filling_index k_filling_index
  have m_filling_index := PySem.W.mg_of X G a_filling_index
  have b_filling_index := F_filling_index.binds (ps := ["book", "places", "size", "values"]) fun _ _ _ _ _ _ us hl => match us, hl with | [_, _, _, _], _ => rfl
  have F_vectors_in := fun_mk (st := st_vectors_in) l_vectors_in c_vectors_in k_vectors_in
  have m_vectors_in := PySem.W.mg_of X G a_vectors_in
  have b_vectors_in := F_vectors_in.binds (ps := ["book", "places"]) fun _ _ _ _ _ _ us hl => match us, hl with | [_, _], _ => rfl
  have F_triangle := fun_mk (st := st_triangle) l_triangle c_triangle k_triangle
  have m_triangle := PySem.W.mg_of X G a_triangle
  have b_triangle := F_triangle.binds (ps := ["book", "places"]) fun _ _ _ _ _ _ us hl => match us, hl with | [_, _], _ => rfl
  have F_summed := fun_mk (st := st_summed) l_summed c_summed k_summed
  have m_summed := PySem.W.mg_of X G a_summed
  have b_summed := F_summed.binds (ps := ["weights", "values"]) fun _ _ _ _ _ _ us hl => match us, hl with | [_, _], _ => rfl
  have F_need_weights := fun_mk (st := st_need_weights) l_need_weights c_need_weights k_need_weights
  have m_need_weights := PySem.W.mg_of X G a_need_weights
  have b_need_weights := F_need_weights.binds (ps := ["places", "weights"]) fun _ _ _ _ _ _ us hl => match us, hl with | [_, _], _ => rfl
  have F_sure_sum := fun_mk (st := st_sure_sum) l_sure_sum c_sure_sum k_sure_sum
  have m_sure_sum := PySem.W.mg_of X G a_sure_sum
  have b_sure_sum := F_sure_sum.binds (ps := ["book", "places", "weights"]) fun _ _ _ _ _ _ us hl => match us, hl with | [_, _, _], _ => rfl
  have F_l_purse := fun_mk (st := st_l_purse) l_l_purse c_l_purse k_l_purse
  have m_l_purse := PySem.W.mg_of X G a_l_purse
  have b_l_purse := F_l_purse.binds (ps := ["_law_script", "_law_k"]) fun _ _ _ _ _ _ us hl => match us, hl with | [_, _], _ => rfl
  have F_l_toss := fun_mk (st := st_l_toss) l_l_toss c_l_toss k_l_toss
  have m_l_toss := PySem.W.mg_of X G a_l_toss
  have b_l_toss := F_l_toss.binds (ps := ["_law_purse_here", "_law_many"]) fun _ _ _ _ _ _ us hl => match us, hl with | [_, _], _ => rfl
  have F_l_divisor := fun_mk (st := st_l_divisor) l_l_divisor c_l_divisor k_l_divisor
  have m_l_divisor := PySem.W.mg_of X G a_l_divisor
  have b_l_divisor := F_l_divisor.binds (ps := ["_law_a", "_law_b"]) fun _ _ _ _ _ _ us hl => match us, hl with | [_, _], _ => rfl
  have F_l_multiple := fun_mk (st := st_l_multiple) l_l_multiple c_l_multiple k_l_multiple
  have m_l_multiple := PySem.W.mg_of X G a_l_multiple
  have b_l_multiple := F_l_multiple.binds (ps := ["_law_some"]) fun _ _ _ _ _ _ us hl => match us, hl with | [_], _ => rfl
  have F_l_row := fun_mk (st := st_l_row) l_l_row c_l_row k_l_row
  have m_l_row := PySem.W.mg_of X G a_l_row
  have b_l_row := F_l_row.binds (ps := ["_law_purse_here"]) fun _ _ _ _ _ _ us hl => match us, hl with | [_], _ => rfl
  have F_l_at := fun_mk (st := st_l_at) l_l_at c_l_at k_l_at
  have m_l_at := PySem.W.mg_of X G a_l_at
  have b_l_at := F_l_at.binds (ps := ["_law_row_here_here", "_law_spot"]) fun _ _ _ _ _ _ us hl => match us, hl with | [_, _], _ => rfl
  have F_l_spots := fun_mk (st := st_l_spots) l_l_spots c_l_spots k_l_spots
  have m_l_spots := PySem.W.mg_of X G a_l_spots
  have b_l_spots := F_l_spots.binds (ps := ["_law_purse_here", "_law_row_here_here", "_law_most"]) fun _ _ _ _ _ _ us hl => match us, hl with | [_, _, _], _ => rfl
  have F_l_book := fun_mk (st := st_l_book) l_l_book c_l_book k_l_book
  have m_l_book := PySem.W.mg_of X G a_l_book
  have b_l_book := F_l_book.binds (ps := ["_law_purse_here", "_law_row_here_here", "_law_most"]) fun _ _ _ _ _ _ us hl => match us, hl with | [_, _, _], _ => rfl
  have F_l_new := fun_mk (st := st_l_new) l_l_new c_l_new k_l_new
  have m_l_new := PySem.W.mg_of X G a_l_new
  have b_l_new := F_l_new.binds (ps := ["_law_purse_here", "_law_book_here", "_law_row_here_here", "_law_most"]) fun _ _ _ _ _ _ us hl => match us, hl with | [_, _, _, _], _ => rfl
  have F_l_mixed := fun_mk (st := st_l_mixed) l_l_mixed c_l_mixed k_l_mixed
  have m_l_mixed := PySem.W.mg_of X G a_l_mixed
  have b_l_mixed := F_l_mixed.binds (ps := ["_law_purse_here", "_law_size_here"]) fun _ _ _ _ _ _ us hl => match us, hl with | [_, _], _ => rfl
  have F_l_product := fun_mk (st := st_l_product) l_l_product c_l_product k_l_product
  have m_l_product := PySem.W.mg_of X G a_l_product
  have b_l_product := F_l_product.binds (ps := ["_law_some"]) fun _ _ _ _ _ _ us hl => match us, hl with | [_], _ => rfl
  have F_l_told_right := fun_mk (st := st_l_told_right) l_l_told_right c_l_told_right k_l_told_right
  have m_l_told_right := PySem.W.mg_of X G a_l_told_right
  have b_l_told_right := F_l_told_right.binds (ps := ["_law_book_here", "_law_fresh", "_law_told"]) fun _ _ _ _ _ _ us hl => match us, hl with | [_, _, _], _ => rfl
  have F_l_right := fun_mk (st := st_l_right) l_l_right c_l_right k_l_right
  have m_l_right := PySem.W.mg_of X G a_l_right
  have b_l_right := F_l_right.binds (ps := ["_law_purse_here", "_law_book_here", "_law_fresh"]) fun _ _ _ _ _ _ us hl => match us, hl with | [_, _, _], _ => rfl
  have F_law := fun_mk (st := st_law) l_law c_law k_law
  have m_law := PySem.W.mg_of X G a_law
  have b_law := F_law.binds (ps := ["_law_script"]) fun _ _ _ _ _ _ us hl => match us, hl with | [_], _ => rfl
  have y_int := PySem.W.mg_none_of X G z_int
  have y_len := PySem.W.mg_none_of X G z_len
  have y_enumerate := PySem.W.mg_none_of X G z_enumerate
  have y_abs := PySem.W.mg_none_of X G z_abs
  have y_range := PySem.W.mg_none_of X G z_range
  have y_isinstance := PySem.W.mg_none_of X G z_isinstance
  have y_all := PySem.W.mg_none_of X G z_all
  have y_bool := PySem.W.mg_none_of X G z_bool
  have y_list := PySem.W.mg_none_of X G z_list
  have y_tuple := PySem.W.mg_none_of X G z_tuple
  have y_zip := PySem.W.mg_none_of X G z_zip
  have y_max := PySem.W.mg_none_of X G z_max
  have y_min := PySem.W.mg_none_of X G z_min
  have y_set := PySem.W.mg_none_of X G z_set
  have y_sorted := PySem.W.mg_none_of X G z_sorted
  have y_sum := PySem.W.mg_none_of X G z_sum
  have v_MOST : ∃ t, mg "MOST" = some (.int (1000000000000000000000000000000) t) := ⟨_, PySem.W.mg_of X G n_MOST⟩
  have v_MOST_ITEMS : ∃ t, mg "MOST_ITEMS" = some (.int (24) t) := ⟨_, PySem.W.mg_of X G n_MOST_ITEMS⟩
  have v_MOST_PLACES : ∃ t, mg "MOST_PLACES" = some (.int (8) t) := ⟨_, PySem.W.mg_of X G n_MOST_PLACES⟩
  have v_MOST_ROUNDS : ∃ t, mg "MOST_ROUNDS" = some (.int (1000000000000000000000000000000) t) := ⟨_, PySem.W.mg_of X G n_MOST_ROUNDS⟩
  refine ⟨PySem.W.fnOf "law" "law" (defArgs st_law) (defBody st_law) (defScope st_law) .none kV_law dc_law pm_law an_law cd_law ct_law, fun s v => .of_eq rfl, fun base _ _ => ?_⟩
  have e_int := fd_ok (n := 1) F_is_integer m_is_integer rfl b_is_integer TInt1_mono (fn_is_integer (base := base) (w := w) (P := l.prog) y_isinstance y_int y_bool F_is_integer)
  have e_told := fd_ok (n := 1) F_is_told m_is_told rfl b_is_told TTold_mono (fn_is_told v_MOST e_int F_is_told)
  have e_item := fd_ok (n := 1) F_is_item m_is_item rfl b_is_item TIsItem_mono (fn_is_item y_isinstance y_len y_tuple e_told F_is_item)
  have e_isbook := fd_ok (n := 1) F_is_book m_is_book rfl b_is_book TIsBook_mono (fn_is_book y_isinstance y_len y_list y_all y_zip v_MOST_ITEMS e_item F_is_book)
  have e_needbook := fd_ok (n := 1) F_need_book m_need_book rfl b_need_book TNeedBook_mono (fn_need_book e_isbook F_need_book)
  have e_div := fd_ok (n := 2) F_divides m_divides rfl b_divides TDivs_mono (fn_divides (base := base) (w := w) (P := l.prog) F_divides)
  have e_dofit := fd_ok (n := 2) F_do_fit m_do_fit rfl b_do_fit TFit_mono (fn_do_fit e_div F_do_fit)
  have e_confs0 := fd_ok (n := 1) F_conflicts_in m_conflicts_in rfl b_conflicts_in TConf0_mono (fn_conflicts_in y_enumerate y_range y_len e_dofit F_conflicts_in)
  have e_conf0 := fd_ok (n := 1) F_conflict_in m_conflict_in rfl b_conflict_in TPoss_mono (fn_conflict_in e_confs0 F_conflict_in)
  have e_needfit := fd_ok (n := 1) F_need_fitting m_need_fitting rfl b_need_fitting TPoss_mono (fn_need_fitting e_conf0 F_need_fitting)
  have e_poss := fd_ok (n := 1) F_need_possible m_need_possible rfl b_need_possible TPoss_mono (fn_need_possible e_needbook e_needfit F_need_possible)
  have e_confs := fd_ok (n := 1) F_conflicts_in m_conflicts_in rfl b_conflicts_in TConfs_mono (fn_conflicts_inG y_enumerate y_range y_len e_dofit F_conflicts_in)
  have e_conf := fd_ok (n := 1) F_conflict_in m_conflict_in rfl b_conflict_in TConfl_mono (fn_conflict_inG e_confs F_conflict_in)
  have e_of := fd_ok (n := 1) F_conflict_of m_conflict_of rfl b_conflict_of TConfOf_mono (fn_conflict_of e_needbook e_conf F_conflict_of)
  have e_gcd := fd_ok (n := 2) F_divisor_of m_divisor_of rfl b_divisor_of TGcd0_mono (fn_divisor_of (base := base) (w := w) (P := l.prog) F_divisor_of)
  have e_mul := fd_ok (n := 1) F_multiple_of m_multiple_of rfl b_multiple_of TMulZ_mono (fn_multiple_of y_abs e_gcd F_multiple_of)
  have e_inv := fd_ok (n := 2) F_inverse_of m_inverse_of rfl b_inverse_of TInv_mono (fn_inverse_of (base := base) (w := w) (P := l.prog) F_inverse_of)
  have e_met := fd_ok (n := 2) F_met m_met rfl b_met TMet_mono (fn_met e_gcd e_inv F_met)
  have e_by := fd_ok (n := 2) F_class_by m_class_by rfl b_class_by TClsBy_mono (fn_class_by y_abs e_met F_class_by)
  have e_at := fd_ok (n := 2) F_class_at m_class_at rfl b_class_at TClsAt_mono (fn_class_at e_poss e_by F_class_at)
  have e_pl := fd_ok (n := 2) F_need_places m_need_places rfl b_need_places TNeedPl_mono (fn_need_places y_isinstance y_len y_list y_all y_set v_MOST_PLACES e_told F_need_places)
  have e_open := fd_ok (n := 2) F_need_open m_need_open rfl b_need_open TOpen_mono (fn_need_open e_needbook e_pl F_need_open)
  have g_steps := fn_steps_in y_enumerate e_mul F_steps_in
  have e_stepsF := fd_ok (n := 2) F_steps_in m_steps_in rfl b_steps_in TStepsF_mono (fn_frr steps_frz g_steps)
  have e_size := fd_ok (n := 2) F_size_in m_size_in rfl b_size_in TSizeIn_mono (fn_size_in e_mul e_stepsF F_size_in)
  have e_cin := fd_ok (n := 2) F_count_in m_count_in rfl b_count_in TCnt_mono (fn_count_in (base := base) (w := w) (P := l.prog) F_count_in)
  have e_nsize := fd_ok (n := 3) F_need_size m_need_size rfl b_need_size TNeedSz_mono (fn_need_size v_MOST_ROUNDS e_div e_needfit e_open e_size F_need_size)
  have e_com := fd_ok (n := 2) F_common_size m_common_size rfl b_common_size TComSz_mono (fn_common_size e_needfit e_open e_size F_common_size)
  have e_cnt := fd_ok (n := 3) F_count_fillings m_count_fillings rfl b_count_fillings TCntFil_mono (fn_count_fillings e_nsize e_stepsF e_cin F_count_fillings)
  have e_in := fd_ok (n := 5) F_index_in m_index_in rfl b_index_in TIdxIn_mono (fn_index_in y_enumerate y_list y_zip e_by F_index_in)
  have e_idx := fd_ok (n := 4) F_filling_index m_filling_index rfl b_filling_index TFilIdx_mono (fn_filling_index y_isinstance y_len y_list y_all e_int e_nsize e_stepsF e_in F_filling_index)
  have e_vec := fd_ok (n := 2) F_vectors_in m_vectors_in rfl b_vectors_in TVecs_mono (fn_vectors_in y_enumerate y_list y_zip e_stepsF e_by F_vectors_in)
  have e_summed := fd_ok (n := 2) F_summed m_summed rfl b_summed TSummed_mono (fn_summed (base := base) (w := w) (P := l.prog) y_sum y_zip F_summed)
  have e_needw := fd_ok (n := 2) F_need_weights m_need_weights rfl b_need_weights TNeedW_mono (fn_need_weights y_isinstance y_len y_list y_all e_int F_need_weights)
  have e_ssum := fd_ok (n := 3) F_sure_sum m_sure_sum rfl b_sure_sum TSureSum_mono (fn_sure_sum y_abs y_list y_zip e_open e_needw e_needfit e_vec e_summed e_gcd e_by F_sure_sum)
  have e_slF := fd_ok (n := 2) F_step_list m_step_list rfl b_step_list TStepLF_mono (fn_frr stepl_frz (fn_step_list e_needfit e_open (fd_ok (n := 2) F_steps_in m_steps_in rfl b_steps_in TSteps_mono g_steps) F_step_list))
  have e_nth := fd_ok (n := 4) F_nth_filling m_nth_filling rfl b_nth_filling TNthF_mono (fn_frr nth_frz (fn_nth_filling y_enumerate y_list y_zip e_nsize e_stepsF e_cin e_by F_nth_filling))
  have e_tri := fd_ok (n := 2) F_triangle m_triangle rfl b_triangle TTri_mono (fn_triangle e_needfit e_open e_vec F_triangle)
  have e_purse := fd_ok (n := 2) F_l_purse m_l_purse rfl b_l_purse TPurse_mono (fn_purse (base := base) (w := w) (P := l.prog) y_abs y_int y_len y_max F_l_purse)
  have e_toss := fd_ok (n := 2) F_l_toss m_l_toss rfl b_l_toss TToss_mono (fn_toss (base := base) (w := w) (P := l.prog) y_int F_l_toss)
  have e_ldiv := fd_ok (n := 2) F_l_divisor m_l_divisor rfl b_l_divisor TGcdA_mono (fn_ldivisor (base := base) (w := w) (P := l.prog) y_abs y_int F_l_divisor)
  have e_lmul := fd_ok (n := 1) F_l_multiple m_l_multiple rfl b_l_multiple TMulL_mono (fn_lmultiple y_abs e_ldiv F_l_multiple)
  have e_lrow := fd_ok (n := 1) F_l_row m_l_row rfl b_l_row TRowP_mono (fn_lrow y_range e_toss F_l_row)
  have e_lat := fd_ok (n := 2) F_l_at m_l_at rfl b_l_at TAtP_mono (fn_lat y_enumerate e_lmul F_l_at)
  have e_spots := fd_ok (n := 3) F_l_spots m_l_spots rfl b_l_spots TSpots_mono (fn_lspots y_max y_min y_range y_set y_sorted e_toss F_l_spots)
  have e_book := fd_ok (n := 3) F_l_book m_l_book rfl b_l_book TBookR_mono (fn_lbookR e_lat e_spots F_l_book)
  have e_new := fd_ok (n := 4) F_l_new m_l_new rfl b_l_new TNew_mono (fn_lnew y_len y_max y_range e_toss F_l_new)
  have e_mixed := fd_ok (n := 2) F_l_mixed m_l_mixed rfl b_l_mixed TMixed_mono (fn_lmixed y_len y_list y_range e_toss F_l_mixed)
  have e_prod := fd_ok (n := 1) F_l_product m_l_product rfl b_l_product TProd_mono (fn_lproduct (base := base) (w := w) (P := l.prog) F_l_product)
  have e_toldr := fd_ok (n := 3) F_l_told_right m_l_told_right rfl b_l_told_right TTold1_mono (fn_ltold y_abs y_int y_list y_sorted y_zip e_slF e_at e_of F_l_told_right)
  have e_right := fd_ok (n := 3) F_l_right m_l_right rfl b_l_right TRight_mono (fn_lright y_int y_len y_range y_sum y_zip e_com e_cnt e_nth e_tri e_idx e_ssum e_toss e_toldr e_mixed e_slF e_prod F_l_right)
  exact fn_law y_len y_max y_min y_range e_purse e_lrow e_book e_new e_right F_law
theorem walk {l : PySem.W.OpenLaw} {q : Program} {loose : List Str} {XP : (Str → Option Value) → Heap → Prop} {YP : World → Heap → Prop} {d : DefRec} {K : Params → PySem.W.Frag} (hn : l.most = some 63) (hdf : d.params.defaults = [])
    (hY : ∀ (w : World) (h : Heap), YP w h → (K w.params).In h)
    (F : ∀ (w : World) (mg : Str → Option Value) (fa : Addr) (h : Heap), (K w.params).In h → h.Ns mainGlobals mg → mg d.name = some (.ref fa) →
      ∃ fd : FuncData, (∀ (s : Shared) (u : Value), BindsTo s fd ⟨[u], []⟩ [("_law_script", u)]) ∧ ∀ base : Heap, (K w.params).In base → base.Ns mainGlobals mg → FnOk l.prog w (K w.params) mg base (L2.CX l.prog w) 10 fa fd ["_law_script"] (spG (K w.params) TLaw)) :
    PySem.W.WalkO q loose XP YP l.row.toRowW d [] (fun f vs => PySem.call f vs) :=
  L2.walk_of (n := 63) (k := 10) (x := "_law_script") (CX := fun w => L2.CX l.prog w) (sp := fun w => spG (K w.params) TLaw) hn (by decide) hdf ⟨rfl, by decide, by decide⟩ hY F (fun w H a ns hl _ hS => law_sp hl hS) fun w H s e s' z => by
    obtain ⟨_, _, _, _, _, _, _, _, _, _, _, _, z⟩ := z
    exact z
end PW
open PySem PySem.W PyProof.Rows
set_option maxHeartbeats 0 in
theorem PySem.Challenge.cw_keeprests_k22_whole_fillings_one_by_one_holds : PySem.Challenge.rw_keeprests_k22_whole_fillings_one_by_one.Holds := by
  refine headX ?_
  k_fill
  refine PW.walk (l := PySem.Challenge.rw_keeprests_k22_whole_fillings_one_by_one) rfl rfl (fun w h Y => PySem.W.kIn_of Y) ?F
  case F =>
    intro w mg fa h KX G hmg
    refine' PW.top_all KX G hmg ?a_is_integer ?l_is_integer ?c_is_integer ?k_is_integer ?a_is_told ?l_is_told ?c_is_told ?k_is_told ?a_is_item ?l_is_item ?c_is_item ?k_is_item ?a_is_book ?l_is_book ?c_is_book ?k_is_book ?a_need_book ?l_need_book ?c_need_book ?k_need_book ?a_divisor_of ?l_divisor_of ?c_divisor_of ?k_divisor_of ?a_multiple_of ?l_multiple_of ?c_multiple_of ?k_multiple_of ?a_divides ?l_divides ?c_divides ?k_divides ?a_do_fit ?l_do_fit ?c_do_fit ?k_do_fit ?a_conflicts_in ?l_conflicts_in ?c_conflicts_in ?k_conflicts_in ?a_conflict_in ?l_conflict_in ?c_conflict_in ?k_conflict_in ?a_need_fitting ?l_need_fitting ?c_need_fitting ?k_need_fitting ?a_need_possible ?l_need_possible ?c_need_possible ?k_need_possible ?a_conflict_of ?l_conflict_of ?c_conflict_of ?k_conflict_of ?a_inverse_of ?l_inverse_of ?c_inverse_of ?k_inverse_of ?a_met ?l_met ?c_met ?k_met ?a_class_by ?l_class_by ?c_class_by ?k_class_by ?a_class_at ?l_class_at ?c_class_at ?k_class_at ?a_need_places ?l_need_places ?c_need_places ?k_need_places ?a_need_open ?l_need_open ?c_need_open ?k_need_open ?a_steps_in ?l_steps_in ?c_steps_in ?k_steps_in ?a_size_in ?l_size_in ?c_size_in ?k_size_in ?a_count_in ?l_count_in ?c_count_in ?k_count_in ?a_need_size ?l_need_size ?c_need_size ?k_need_size ?a_step_list ?l_step_list ?c_step_list ?k_step_list ?a_common_size ?l_common_size ?c_common_size ?k_common_size ?a_count_fillings ?l_count_fillings ?c_count_fillings ?k_count_fillings ?a_nth_filling ?l_nth_filling ?c_nth_filling ?k_nth_filling ?a_index_in ?l_index_in ?c_index_in ?k_index_in ?a_filling_index ?l_filling_index ?c_filling_index ?k_filling_index ?a_vectors_in ?l_vectors_in ?c_vectors_in ?k_vectors_in ?a_triangle ?l_triangle ?c_triangle ?k_triangle ?a_summed ?l_summed ?c_summed ?k_summed ?a_need_weights ?l_need_weights ?c_need_weights ?k_need_weights ?a_sure_sum ?l_sure_sum ?c_sure_sum ?k_sure_sum ?a_l_purse ?l_l_purse ?c_l_purse ?k_l_purse ?a_l_toss ?l_l_toss ?c_l_toss ?k_l_toss ?a_l_divisor ?l_l_divisor ?c_l_divisor ?k_l_divisor ?a_l_multiple ?l_l_multiple ?c_l_multiple ?k_l_multiple ?a_l_row ?l_l_row ?c_l_row ?k_l_row ?a_l_at ?l_l_at ?c_l_at ?k_l_at ?a_l_spots ?l_l_spots ?c_l_spots ?k_l_spots ?a_l_book ?l_l_book ?c_l_book ?k_l_book ?a_l_new ?l_l_new ?c_l_new ?k_l_new ?a_l_mixed ?l_l_mixed ?c_l_mixed ?k_l_mixed ?a_l_product ?l_l_product ?c_l_product ?k_l_product ?a_l_told_right ?l_l_told_right ?c_l_told_right ?k_l_told_right ?a_l_right ?l_l_right ?c_l_right ?k_l_right ?a_law ?l_law ?c_law ?k_law ?z_int ?z_len ?z_enumerate ?z_abs ?z_range ?z_isinstance ?z_all ?z_bool ?z_list ?z_tuple ?z_zip ?z_max ?z_min ?z_set ?z_sorted ?z_sum ?n_MOST ?n_MOST_ITEMS ?n_MOST_PLACES ?n_MOST_ROUNDS
    (case a_is_integer => k_is)
    (case l_is_integer => k_is)
    (case c_is_integer => k_is)
    (case k_is_integer => k_is)
    (case a_is_told => k_is)
    (case l_is_told => k_is)
    (case c_is_told => k_is)
    (case k_is_told => k_is)
    (case a_is_item => k_is)
    (case l_is_item => k_is)
    (case c_is_item => k_is)
    (case k_is_item => k_is)
    (case a_is_book => k_is)
    (case l_is_book => k_is)
    (case c_is_book => k_is)
    (case k_is_book => k_is)
    (case a_need_book => k_is)
    (case l_need_book => k_is)
    (case c_need_book => k_is)
    (case k_need_book => k_is)
    (case a_divisor_of => k_is)
    (case l_divisor_of => k_is)
    (case c_divisor_of => k_is)
    (case k_divisor_of => k_is)
    (case a_multiple_of => k_is)
    (case l_multiple_of => k_is)
    (case c_multiple_of => k_is)
    (case k_multiple_of => k_is)
    (case a_divides => k_is)
    (case l_divides => k_is)
    (case c_divides => k_is)
    (case k_divides => k_is)
    (case a_do_fit => k_is)
    (case l_do_fit => k_is)
    (case c_do_fit => k_is)
    (case k_do_fit => k_is)
    (case a_conflicts_in => k_is)
    (case l_conflicts_in => k_is)
    (case c_conflicts_in => k_is)
    (case k_conflicts_in => k_is)
    (case a_conflict_in => k_is)
    (case l_conflict_in => k_is)
    (case c_conflict_in => k_is)
    (case k_conflict_in => k_is)
    (case a_need_fitting => k_is)
    (case l_need_fitting => k_is)
    (case c_need_fitting => k_is)
    (case k_need_fitting => k_is)
    (case a_need_possible => k_is)
    (case l_need_possible => k_is)
    (case c_need_possible => k_is)
    (case k_need_possible => k_is)
    (case a_conflict_of => k_is)
    (case l_conflict_of => k_is)
    (case c_conflict_of => k_is)
    (case k_conflict_of => k_is)
    (case a_inverse_of => k_is)
    (case l_inverse_of => k_is)
    (case c_inverse_of => k_is)
    (case k_inverse_of => k_is)
    (case a_met => k_is)
    (case l_met => k_is)
    (case c_met => k_is)
    (case k_met => k_is)
    (case a_class_by => k_is)
    (case l_class_by => k_is)
    (case c_class_by => k_is)
    (case k_class_by => k_is)
    (case a_class_at => k_is)
    (case l_class_at => k_is)
    (case c_class_at => k_is)
    (case k_class_at => k_is)
    (case a_need_places => k_is)
    (case l_need_places => k_is)
    (case c_need_places => k_is)
    (case k_need_places => k_is)
    (case a_need_open => k_is)
    (case l_need_open => k_is)
    (case c_need_open => k_is)
    (case k_need_open => k_is)
    (case a_steps_in => k_is)
    (case l_steps_in => k_is)
    (case c_steps_in => k_is)
    (case k_steps_in => k_is)
    (case a_size_in => k_is)
    (case l_size_in => k_is)
    (case c_size_in => k_is)
    (case k_size_in => k_is)
    (case a_count_in => k_is)
    (case l_count_in => k_is)
    (case c_count_in => k_is)
    (case k_count_in => k_is)
    (case a_need_size => k_is)
    (case l_need_size => k_is)
    (case c_need_size => k_is)
    (case k_need_size => k_is)
    (case a_step_list => k_is)
    (case l_step_list => k_is)
    (case c_step_list => k_is)
    (case k_step_list => k_is)
    (case a_common_size => k_is)
    (case l_common_size => k_is)
    (case c_common_size => k_is)
    (case k_common_size => k_is)
    (case a_count_fillings => k_is)
    (case l_count_fillings => k_is)
    (case c_count_fillings => k_is)
    (case k_count_fillings => k_is)
    (case a_nth_filling => k_is)
    (case l_nth_filling => k_is)
    (case c_nth_filling => k_is)
    (case k_nth_filling => k_is)
    (case a_index_in => k_is)
    (case l_index_in => k_is)
    (case c_index_in => k_is)
    (case k_index_in => k_is)
    (case a_filling_index => k_is)
    (case l_filling_index => k_is)
    (case c_filling_index => k_is)
    (case k_filling_index => k_is)
    (case a_vectors_in => k_is)
    (case l_vectors_in => k_is)
    (case c_vectors_in => k_is)
    (case k_vectors_in => k_is)
    (case a_triangle => k_is)
    (case l_triangle => k_is)
    (case c_triangle => k_is)
    (case k_triangle => k_is)
    (case a_summed => k_is)
    (case l_summed => k_is)
    (case c_summed => k_is)
    (case k_summed => k_is)
    (case a_need_weights => k_is)
    (case l_need_weights => k_is)
    (case c_need_weights => k_is)
    (case k_need_weights => k_is)
    (case a_sure_sum => k_is)
    (case l_sure_sum => k_is)
    (case c_sure_sum => k_is)
    (case k_sure_sum => k_is)
    (case a_l_purse => k_is)
    (case l_l_purse => k_is)
    (case c_l_purse => k_is)
    (case k_l_purse => k_is)
    (case a_l_toss => k_is)
    (case l_l_toss => k_is)
    (case c_l_toss => k_is)
    (case k_l_toss => k_is)
    (case a_l_divisor => k_is)
    (case l_l_divisor => k_is)
    (case c_l_divisor => k_is)
    (case k_l_divisor => k_is)
    (case a_l_multiple => k_is)
    (case l_l_multiple => k_is)
    (case c_l_multiple => k_is)
    (case k_l_multiple => k_is)
    (case a_l_row => k_is)
    (case l_l_row => k_is)
    (case c_l_row => k_is)
    (case k_l_row => k_is)
    (case a_l_at => k_is)
    (case l_l_at => k_is)
    (case c_l_at => k_is)
    (case k_l_at => k_is)
    (case a_l_spots => k_is)
    (case l_l_spots => k_is)
    (case c_l_spots => k_is)
    (case k_l_spots => k_is)
    (case a_l_book => k_is)
    (case l_l_book => k_is)
    (case c_l_book => k_is)
    (case k_l_book => k_is)
    (case a_l_new => k_is)
    (case l_l_new => k_is)
    (case c_l_new => k_is)
    (case k_l_new => k_is)
    (case a_l_mixed => k_is)
    (case l_l_mixed => k_is)
    (case c_l_mixed => k_is)
    (case k_l_mixed => k_is)
    (case a_l_product => k_is)
    (case l_l_product => k_is)
    (case c_l_product => k_is)
    (case k_l_product => k_is)
    (case a_l_told_right => k_is)
    (case l_l_told_right => k_is)
    (case c_l_told_right => k_is)
    (case k_l_told_right => k_is)
    (case a_l_right => k_is)
    (case l_l_right => k_is)
    (case c_l_right => k_is)
    (case k_l_right => k_is)
    (case a_law => k_is)
    (case l_law => k_is)
    (case c_law => k_is)
    (case k_law => k_is)
    (case z_int => k_is)
    (case z_len => k_is)
    (case z_enumerate => k_is)
    (case z_abs => k_is)
    (case z_range => k_is)
    (case z_isinstance => k_is)
    (case z_all => k_is)
    (case z_bool => k_is)
    (case z_list => k_is)
    (case z_tuple => k_is)
    (case z_zip => k_is)
    (case z_max => k_is)
    (case z_min => k_is)
    (case z_set => k_is)
    (case z_sorted => k_is)
    (case z_sum => k_is)
    (case n_MOST => k_is)
    (case n_MOST_ITEMS => k_is)
    (case n_MOST_PLACES => k_is)
    (case n_MOST_ROUNDS => k_is)
