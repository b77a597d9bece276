import PyProof.Rows.All
import Wide.All
import OpenK.AllK
import Wide.FinOn
import HandS.ForMost
import HandS.ForExc
import HandS.Walk
import HandS.Wide
import HandS.WideBits
import HandS.Strs
import HandS.IsInst
import HandS.Style
import HandS.Deep
import HandS.CallSlots
import HandS.SetFor
import HandS.RaiseMore
import PySem.Challenge.RW_keeprests_k59_texts_written_and_read
import PyProof.StrBlock2
import PyProof.P3Eq
set_option Elab.async false
set_option linter.all false
set_option maxRecDepth 100000
set_option maxHeartbeats 4000000
/-! PW1 -/
namespace PW
open PySem L2

/-- data: cel a the mutable list (a cell) at a; raw v any other value -/
inductive D where
  | non | bl (b : Bool) | int (i : Int) | str (x : Str) | tup (ds : List D) | lst (ds : List D) | cel (a : Addr) | raw (v : V)
inductive Cell where
  | lst (ds : List D) | dct (kvs : List (Key × D)) | set (w : World) (f : Int → Bool) (n : Nat)
abbrev Cells := List (Addr × Cell)
abbrev Slots := List (Option D)

mutual
inductive Rep (K : PySem.W.Frag) (F : Hp) : V → D → Prop
  | non : Rep K F .non .non
  | bl (b : Bool) : Rep K F (.bl b) (.bl b)
  | int (i : Int) : Rep K F (.int i) (.int i)
  | str (x : Str) : Rep K F (.str x) (.str x)
  | tup {a : Addr} {vs : List V} {ds : List D} : SqT K F a vs → Reps K F vs ds → Rep K F (.ref a) (.tup ds)
  | lst {a : Addr} {vs : List V} {ds : List D} : SqL K F a vs → Reps K F vs ds → Rep K F (.ref a) (.lst ds)
  | cel (a : Addr) : Rep K F (.ref a) (.cel a)
  | raw (v : V) : Rep K F v (.raw v)
inductive Reps (K : PySem.W.Frag) (F : Hp) : List V → List D → Prop
  | nil : Reps K F [] []
  | cons {v : V} {vs : List V} {d : D} {ds : List D} : Rep K F v d → Reps K F vs ds → Reps K F (v :: vs) (d :: ds)
end

theorem Same.tup {K : PySem.W.Frag} {H H' : Hp} {a : Addr} {xs : List V} (e : Same H H') (h : SqT K H a xs) : SqT K H' a xs := by
  rcases h with (h | ⟨o, h⟩) | h
  · exact .inl (.inl (e _ _ h))
  · exact .inl (.inr ⟨o, e _ _ h⟩)
  · exact .inr h

section
variable {K : PySem.W.Frag} {F F' : Hp}
mutual
theorem Rep.mono (s : Same F F') : ∀ (d : D) (v : V), Rep K F v d → Rep K F' v d
  | .non, _, h => by cases h; exact .non
  | .bl _, _, h => by cases h; exact .bl _
  | .int _, _, h => by cases h; exact .int _
  | .str _, _, h => by cases h; exact .str _
  | .tup ds, _, h => by cases h with | tup a b => exact .tup (Same.tup s a) (Reps.mono s ds _ b)
  | .lst ds, _, h => by cases h with | lst a b => exact .lst (s.seq a) (Reps.mono s ds _ b)
  | .cel k, _, h => by cases h with | cel a => exact .cel _
  | .raw _, _, h => by cases h; exact .raw _
theorem Reps.mono (s : Same F F') : ∀ (ds : List D) (vs : List V), Reps K F vs ds → Reps K F' vs ds
  | [], _, h => by cases h; exact .nil
  | d :: ds, _, h => by cases h with | cons a b => exact .cons (Rep.mono s d _ a) (Reps.mono s ds _ b)
end
theorem Rep.up {v : V} {d : D} (h : Rep K F v d) (s : Same F F') : Rep K F' v d := Rep.mono s d v h
theorem Reps.up {vs : List V} {ds : List D} (h : Reps K F vs ds) (s : Same F F') : Reps K F' vs ds := Reps.mono s ds vs h
theorem Reps.length : ∀ {vs : List V} {ds : List D}, Reps K F vs ds → vs.length = ds.length
  | _, [], h => by cases h; rfl
  | _, d :: ds, h => by cases h with | cons a b => simp [Reps.length b]
theorem Reps.get : ∀ {vs : List V} {ds : List D} {i : Nat} {d : D}, Reps K F vs ds → ds[i]? = some d → ∃ v, vs[i]? = some v ∧ Rep K F v d
  | _, [], i, d, h, e => by simp at e
  | _, d0 :: ds, 0, d, h, e => by
    cases h with | cons a b => simp at e; subst e; exact ⟨_, rfl, a⟩
  | _, d0 :: ds, i + 1, d, h, e => by
    cases h with
    | cons a b =>
      obtain ⟨v, h1, h2⟩ := Reps.get (i := i) b (by simpa using e)
      exact ⟨v, by simpa using h1, h2⟩
theorem Reps.get' : ∀ {vs : List V} {ds : List D} {i : Nat} {v : V}, Reps K F vs ds → vs[i]? = some v → ∃ d, ds[i]? = some d ∧ Rep K F v d
  | _, [], i, v, h, e => by cases h; simp at e
  | _, d0 :: ds, 0, v, h, e => by
    cases h with | cons a b => simp at e; subst e; exact ⟨_, rfl, a⟩
  | _, d0 :: ds, i + 1, v, h, e => by
    cases h with
    | cons a b =>
      obtain ⟨d, h1, h2⟩ := Reps.get' (i := i) b (by simpa using e)
      exact ⟨d, by simpa using h1, h2⟩
theorem Reps.append : ∀ {vs ws : List V} {ds es : List D}, Reps K F vs ds → Reps K F ws es → Reps K F (vs ++ ws) (ds ++ es)
  | _, _, [], es, h, g => by cases h; exact g
  | _, _, d :: ds, es, h, g => by cases h with | cons a b => exact .cons a (b.append g)
theorem Reps.take : ∀ {vs : List V} {ds : List D} (n : Nat), Reps K F vs ds → Reps K F (vs.take n) (ds.take n)
  | _, _, 0, _ => by simpa using Reps.nil
  | _, [], n + 1, h => by cases h; exact .nil
  | _, d :: ds, n + 1, h => by cases h with | cons a b => simpa using Reps.cons a (b.take n)
theorem Reps.drop : ∀ {vs : List V} {ds : List D} (n : Nat), Reps K F vs ds → Reps K F (vs.drop n) (ds.drop n)
  | _, _, 0, h => by simpa using h
  | _, [], n + 1, h => by cases h; exact .nil
  | _, d :: ds, n + 1, h => by cases h with | cons a b => simpa using b.drop n
theorem Reps.set : ∀ {vs : List V} {ds : List D} {v : V} {d : D} (n : Nat), Rep K F v d → Reps K F vs ds → Reps K F (vs.set n v) (ds.set n d)
  | _, [], _, _, n, r, h => by cases h; exact .nil
  | _, _ :: ds, _, _, 0, r, h => by cases h with | cons a b => exact .cons r b
  | _, _ :: ds, _, _, n + 1, r, h => by cases h with | cons a b => exact .cons a (b.set n r)
theorem Reps.reverse {vs : List V} {ds : List D} (h : Reps K F vs ds) : Reps K F vs.reverse ds.reverse := by
  induction ds generalizing vs with
  | nil => cases h; exact .nil
  | cons d ds ih => cases h with | cons a b => simpa using (ih b).append (.cons a .nil)
theorem Reps.replicate {vs : List V} {ds : List D} (h : Reps K F vs ds) : ∀ n : Nat, Reps K F (List.replicate n vs).flatten (List.replicate n ds).flatten
  | 0 => .nil
  | n + 1 => by simpa [List.replicate_succ] using h.append (h.replicate n)
theorem Reps.ints : ∀ (ns : List Int), Reps K F (ns.map V.int) (ns.map D.int)
  | [] => .nil
  | n :: ns => .cons (.int n) (Reps.ints ns)
theorem Reps.ints_inv : ∀ {ns : List Int} {vs : List V}, Reps K F vs (ns.map D.int) → vs = ns.map V.int
  | [], _, h => by cases h; rfl
  | n :: ns, _, h => by cases h with | cons a b => cases a; rw [Reps.ints_inv b]; rfl
theorem Reps.bls_inv : ∀ {ns : List Bool} {vs : List V}, Reps K F vs (ns.map D.bl) → vs = ns.map V.bl
  | [], _, h => by cases h; rfl
  | n :: ns, _, h => by cases h with | cons a b => cases a; rw [Reps.bls_inv b]; rfl
theorem Reps.strs_inv : ∀ {ns : List Str} {vs : List V}, Reps K F vs (ns.map D.str) → vs = ns.map V.str
  | [], _, h => by cases h; rfl
  | n :: ns, _, h => by cases h with | cons a b => cases a; rw [Reps.strs_inv b]; rfl
theorem Rep.int_inv {v : V} {i : Int} (h : Rep K F v (.int i)) : v = .int i := by cases h; rfl
theorem Rep.bl_inv {v : V} {i : Bool} (h : Rep K F v (.bl i)) : v = .bl i := by cases h; rfl
theorem Rep.str_inv {v : V} {i : Str} (h : Rep K F v (.str i)) : v = .str i := by cases h; rfl
theorem Rep.non_inv {v : V} (h : Rep K F v .non) : v = .non := by cases h; rfl
theorem Rep.raw_inv {v w : V} (h : Rep K F v (.raw w)) : v = w := by cases h; rfl
end


def KVs (K : PySem.W.Frag) (F : Hp) : List (Key × V) → List (Key × D) → Prop := Paired fun p q => p.1 = q.1 ∧ Rep K F p.2 q.2
theorem KVs.up {K : PySem.W.Frag} {F F' : Hp} (s : Same F F') : ∀ {xs : List (Key × V)} {ys : List (Key × D)}, KVs K F xs ys → KVs K F' xs ys
  | _, _, .nil => .nil
  | _, _, .cons h t => .cons ⟨h.1, h.2.up s⟩ (KVs.up s t)
def CellIs (K : PySem.W.Frag) (F : Hp) (H : Hp) (a : Addr) : Cell → Prop
  | .lst ds => ∃ vs, H a = some (.lst vs) ∧ Reps K F vs ds
  | .dct kvs => ∃ xs, H a = some (.dK xs) ∧ KVs K F xs kvs
  | .set w f n => H a = some (SetO w a f n)
structure Stt (K : PySem.W.Frag) (F : Hp) (M : Cells) (δ : Slots) (σ : L2.St) (H : Hp) : Prop where
  le : Same F H
  nd : (M.map Prod.fst).Nodup
  cell : ∀ p ∈ M, CellIs K F H p.1 p.2
  out : ∀ p ∈ M, F p.1 = none
  slot : ∀ (i : Nat) (d : D), δ[i]? = some (some d) → ∃ v, σ[i]? = some (some v) ∧ Rep K F v d
  dlen : δ.length = σ.length

section
variable {K : PySem.W.Frag} {F F' : Hp} {M M' : Cells} {δ : Slots} {σ : L2.St} {H H' : Hp}
theorem CellIs.mono (s : Same F F') {a : Addr} {c : Cell} (h : CellIs K F H a c) (e : H' a = H a) : CellIs K F' H' a c := by
  cases c with
  | lst ds => obtain ⟨vs, h1, h2⟩ := h; exact ⟨vs, e.trans h1, h2.up s⟩
  | dct kvs => obtain ⟨vs, h1, h2⟩ := h; exact ⟨vs, e.trans h1, KVs.up s h2⟩
  | set w f n => exact e.trans h
theorem CellIs.born {a : Addr} {c : Cell} (h : CellIs K F H a c) : H a ≠ none := by
  cases c with
  | lst ds => obtain ⟨vs, h1, h2⟩ := h; rw [h1]; simp
  | dct kvs => obtain ⟨vs, h1, h2⟩ := h; rw [h1]; simp
  | set w f n => exact fun z => by rw [show H a = _ from h] at z; cases z
theorem Stt.cellAt (S : Stt K F M δ σ H) {a : Addr} {ds : List D} (h : (a, Cell.lst ds) ∈ M) : ∃ vs, H a = some (.lst vs) ∧ F a = none ∧ Reps K F vs ds := by
  obtain ⟨vs, h1, h2⟩ := S.cell _ h
  exact ⟨vs, h1, S.out _ h, h2⟩
theorem Stt.none_of (S : Stt K F M δ σ H) {a : Addr} (h : H a = none) : F a = none := by
  cases e : F a with
  | none => rfl
  | some u => rw [S.le a u e] at h; cases h
theorem Stt.ne_cell (S : Stt K F M δ σ H) {a : Addr} (h : H a = none) {p : Addr × Cell} (hp : p ∈ M) : p.1 ≠ a := fun z => (S.cell p hp).born (by rw [z]; exact h)
theorem mem_inj {M : Cells} (nd : (M.map Prod.fst).Nodup) {a : Addr} {c c' : Cell} (h : (a, c) ∈ M) (g : (a, c') ∈ M) : c = c' := by
  induction M with
  | nil => cases h
  | cons p r ih =>
    rw [List.map_cons, List.nodup_cons] at nd
    rcases List.mem_cons.mp h with h | h <;> rcases List.mem_cons.mp g with g | g
    · rw [← h] at g; injection g with _ e; exact e.symm
    · exact absurd (List.mem_map.mpr ⟨_, g, by rw [← h]⟩) nd.1
    · exact absurd (List.mem_map.mpr ⟨_, h, by rw [← g]⟩) nd.1
    · exact ih nd.2 h g
/-- a new object that is no cell, laid as frozen -/
theorem Stt.froz (S : Stt K F M δ σ H) {a : Addr} {o : HO} (h : H a = none) : Stt K (upd F a o) M δ σ (upd H a o) ∧ Same F (upd F a o) := by
  have fa : F a = none := S.none_of h
  have s : Same F (upd F a o) := fun b u e => by rw [upd_ne (ne_of_none e fa)]; exact e
  refine ⟨⟨fun b u e => ?_, S.nd, fun p hp => ?_, fun p hp => ?_, fun i d e => ?_, S.dlen⟩, s⟩
  · by_cases hb : b = a
    · subst hb; rw [upd_same] at e ⊢; exact e
    · rw [upd_ne hb] at e ⊢; exact S.le b u e
  · exact (S.cell p hp).mono s (by rw [upd_ne (S.ne_cell h hp)])
  · rw [upd_ne (S.ne_cell h hp)]; exact S.out p hp
  · obtain ⟨v, h1, h2⟩ := S.slot i d e
    exact ⟨v, h1, h2.up s⟩
/-- a new object, laid as a cell -/
theorem Stt.newCell (S : Stt K F M δ σ H) {a : Addr} {o : HO} {c : Cell} (h : H a = none) (hc : CellIs K F (upd H a o) a c) : Stt K F ((a, c) :: M) δ σ (upd H a o) := by
  have fa : F a = none := S.none_of h
  refine ⟨fun b u e => ?_, ?_, fun p hp => ?_, fun p hp => ?_, S.slot, S.dlen⟩
  · rw [upd_ne (ne_of_none e fa)]; exact S.le b u e
  · rw [List.map_cons, List.nodup_cons]
    refine ⟨fun hx => ?_, S.nd⟩
    obtain ⟨p, hp, e⟩ := List.mem_map.mp hx
    exact S.ne_cell h hp e
  · rcases List.mem_cons.mp hp with z | z
    · subst z; exact hc
    · exact (S.cell p z).mono (Same.refl _) (by rw [upd_ne (S.ne_cell h z)])
  · rcases List.mem_cons.mp hp with z | z
    · subst z; exact fa
    · exact S.out p z
theorem getElem?_set_cases {α : Type} {l : List α} {k j : Nat} {x y : α} (h : (l.set k x)[j]? = some y) : (j = k ∧ y = x) ∨ (j ≠ k ∧ l[j]? = some y) := by
  by_cases e : k = j
  · subst e
    have := (List.getElem?_eq_some_iff.mp h).1
    rw [List.getElem?_set_self (by simpa using this)] at h
    exact .inl ⟨rfl, (Option.some.inj h).symm⟩
  · rw [List.getElem?_set_ne e] at h
    exact .inr ⟨fun z => e z.symm, h⟩
theorem mem_set_cases {α : Type} {l : List α} {k : Nat} {x y : α} (h : y ∈ l.set k x) : y = x ∨ ∃ j, j ≠ k ∧ l[j]? = some y := by
  obtain ⟨j, e⟩ := List.getElem?_of_mem h
  rcases getElem?_set_cases e with ⟨_, h2⟩ | h
  · exact .inl h2
  · exact .inr ⟨j, h⟩
theorem ix_ne {M : Cells} (nd : (M.map Prod.fst).Nodup) {k j : Nat} {p q : Addr × Cell} (h : M[k]? = some p) (g : M[j]? = some q) (hne : j ≠ k) : q.1 ≠ p.1 := fun z => hne (nd_ix nd (a := by
    show (M.map Prod.fst)[j]? = some q.1
    rw [List.getElem?_map, g]; rfl) (b := by
    show (M.map Prod.fst)[k]? = some q.1
    rw [List.getElem?_map, h, z]; rfl))
/-- a cell changes -/
theorem Stt.setCell (S : Stt K F M δ σ H) {k : Nat} {a : Addr} {c c' : Cell} {o : HO} (hk : M[k]? = some (a, c)) (hc : CellIs K F (upd H a o) a c') : Stt K F (M.set k (a, c')) δ σ (upd H a o) := by
  have fa : F a = none := S.out _ (List.mem_of_getElem? hk)
  refine ⟨fun b u e => ?_, ?_, fun p hp => ?_, fun p hp => ?_, S.slot, S.dlen⟩
  · rw [upd_ne (ne_of_none e fa)]; exact S.le b u e
  · have e : (M.set k (a, c')).map Prod.fst = M.map Prod.fst := by
      rw [List.map_set]
      refine List.ext_getElem? fun i => ?_
      by_cases hi : k = i
      · subst hi
        have hl := (List.getElem?_eq_some_iff.mp hk).1
        rw [List.getElem?_set_self (by simpa using hl), List.getElem?_map, hk]; rfl
      · rw [List.getElem?_set_ne hi]
    rw [e]; exact S.nd
  · rcases mem_set_cases hp with rfl | ⟨j, hj, e⟩
    · exact hc
    · exact (S.cell p (List.mem_of_getElem? e)).mono (Same.refl _) (by rw [upd_ne (ix_ne S.nd hk e hj)])
  · rcases mem_set_cases hp with rfl | ⟨j, hj, e⟩
    · exact fa
    · exact S.out p (List.mem_of_getElem? e)
/-- a slot is set -/
theorem Stt.setSlot (S : Stt K F M δ σ H) {i : Nat} {v : V} {d : D} (r : Rep K F v d) : Stt K F M (δ.set i (some d)) (σ.set i (some v)) H := by
  refine ⟨S.le, S.nd, S.cell, S.out, fun j e h => ?_, by simp [S.dlen]⟩
  have hj : j < δ.length := by have := (List.getElem?_eq_some_iff.mp h).1; simpa using this
  rcases getElem?_set_cases h with ⟨h1, h2⟩ | ⟨h1, h2⟩
  · subst h1; cases h2
    exact ⟨v, by rw [List.getElem?_set_self (by rw [← S.dlen]; exact hj)], r⟩
  · obtain ⟨w, e1, e2⟩ := S.slot j e h2
    exact ⟨w, by rw [List.getElem?_set_ne (fun z => h1 z.symm)]; exact e1, e2⟩
/-- less is known of the slots -/
theorem Stt.slots {δ' : Slots} {σ' : L2.St} (S : Stt K F M δ σ H) (hl : δ'.length = σ'.length) (h : ∀ (i : Nat) (d : D), δ'[i]? = some (some d) → ∃ v, σ'[i]? = some (some v) ∧ Rep K F v d) : Stt K F M δ' σ' H :=
  ⟨S.le, S.nd, S.cell, S.out, h, hl⟩
theorem Stt.keep {F0 : Hp} {δ' : Slots} {σ' : L2.St} {M0 : Cells} {H0 : Hp} (S : Stt K F M δ σ H) (S0 : Stt K F0 M0 δ' σ' H0) (s : Same F0 F) : Stt K F M δ' σ' H :=
  S.slots S0.dlen fun i d e => let ⟨v, h1, h2⟩ := S0.slot i d e; ⟨v, h1, h2.up s⟩
/-- cells are forgotten (not frozen: they are no longer known at all) -/
theorem Stt.fewer (S : Stt K F M δ σ H) (h : M'.Sublist M) : Stt K F M' δ σ H :=
  ⟨S.le, S.nd.sublist (h.map _), fun p hp => S.cell p (h.subset hp), fun p hp => S.out p (h.subset hp), S.slot, S.dlen⟩
/-- a cell is frozen -/
theorem Stt.freeze (S : Stt K F M δ σ H) {k : Nat} {a : Addr} {ds : List D} (h : M[k]? = some (a, .lst ds)) :
    ∃ F', Same F F' ∧ Stt K F' (M.eraseIdx k) δ σ H ∧ Rep K F' (.ref a) (.lst ds) := by
  obtain ⟨vs, hH, fa, r⟩ := S.cellAt (List.mem_of_getElem? h)
  have s : Same F (upd F a (.lst vs)) := fun b u e => by rw [upd_ne (ne_of_none e fa)]; exact e
  have ne : ∀ p ∈ M.eraseIdx k, p.1 ≠ a := fun p hp => by
    obtain ⟨j, e⟩ := List.getElem?_of_mem hp
    rw [List.getElem?_eraseIdx] at e
    split at e
    · exact ix_ne S.nd h e (by omega)
    · exact ix_ne S.nd h e (by omega)
  have sub : ∀ p ∈ M.eraseIdx k, p ∈ M := fun p hp => (List.eraseIdx_sublist M k).subset hp
  refine ⟨upd F a (.lst vs), s, ⟨fun b u e => ?_, S.nd.sublist ((List.eraseIdx_sublist M k).map _), fun p hp => (S.cell p (sub p hp)).mono s rfl, fun p hp => ?_, fun i d e => ?_, S.dlen⟩, .lst (.of upd_same) (r.up s)⟩
  · by_cases hb : b = a
    · subst hb; rw [upd_same] at e; rw [hH]; exact e
    · rw [upd_ne hb] at e; exact S.le b u e
  · rw [upd_ne (ne p hp)]; exact S.out p (sub p hp)
  · obtain ⟨v, h1, h2⟩ := S.slot i d e
    exact ⟨v, h1, h2.up s⟩
end

/-- d is a list, frozen or a cell -/
def LV (M : Cells) (d : D) (ds : List D) : Prop := d = .lst ds ∨ ∃ (k : Nat) (a : Addr), d = .cel a ∧ M[k]? = some (a, .lst ds)
theorem LV.l {M : Cells} {ds : List D} : LV M (.lst ds) ds := .inl rfl
theorem LV.c {M : Cells} {a : Addr} {ds : List D} (k : Nat) (h : M[k]? = some (a, .lst ds)) : LV M (.cel a) ds := .inr ⟨k, a, rfl, h⟩
section
variable {K : PySem.W.Frag} {F : Hp} {M : Cells} {δ : Slots} {σ : L2.St} {H : Hp}
theorem Stt.readL (S : Stt K F M δ σ H) {v : V} {d : D} {ds : List D} (r : Rep K F v d) (h : LV M d ds) : ∃ a vs, v = .ref a ∧ SqL K H a vs ∧ Reps K F vs ds := by
  rcases h with rfl | ⟨k, a, rfl, h⟩
  · cases r with | lst a b => exact ⟨_, _, rfl, S.le.seq a, b⟩
  · cases r
    obtain ⟨vs, h1, h2, h3⟩ := S.cellAt (List.mem_of_getElem? h)
    exact ⟨_, vs, rfl, .of h1, h3⟩
theorem Stt.readT (S : Stt K F M δ σ H) {v : V} {ds : List D} (r : Rep K F v (.tup ds)) : ∃ a vs, v = .ref a ∧ SqT K H a vs ∧ Reps K F vs ds := by
  cases r with | tup a b => exact ⟨_, _, rfl, Same.tup S.le a, b⟩
end
end PW
/-! PW2 -/
namespace PW
open PySem L2 PyProof.Rows

structure Ex where
  cls : Addr
  fs : List (Str × D)
abbrev XP := Ex → Slots → Cells → Prop
def PX0 : XP := fun _ _ _ => False
def FsIs (K : PySem.W.Frag) (F : Hp) : List (Str × V) → List (Str × D) → Prop := Paired fun p q => p.1 = q.1 ∧ Rep K F p.2 q.2
def ExIs (K : PySem.W.Frag) (F H : Hp) (cls : Value) (d : Option Addr) (x : Ex) : Prop :=
  cls = .ref x.cls ∧ ((x.fs = [] ∧ d = none) ∨ ∃ dd vs, d = some dd ∧ H dd = some (.xd vs) ∧ FsIs K F vs x.fs)
def upX (K : PySem.W.Frag) (F : Hp) (P : XP) (cls : Value) (d : Option Addr) (σ' : L2.St) (H' : Hp) : Prop :=
  ∃ F' M' δ' x, Same F F' ∧ Stt K F' M' δ' σ' H' ∧ ExIs K F' H' cls d x ∧ P x δ' M'
def TakesP (X : Cx) (P : XP) (F : Hp) : Prop := ∃ W : WX, Takes X W ∧ ∀ cls d σ' H', upX X.K F P cls d σ' H' → W cls d σ' H'
theorem TakesP.up {X : Cx} {P : XP} {F F' : Hp} (t : TakesP X P F) (s : Same F F') : TakesP X P F' :=
  let ⟨W, h, k⟩ := t; ⟨W, h, fun cls d σ' H' ⟨F2, M2, δ2, x, s2, r⟩ => k cls d σ' H' ⟨F2, M2, δ2, x, s.trans s2, r⟩⟩
theorem TakesP.none {X : Cx} {F : Hp} : TakesP X PX0 F := ⟨fun _ _ _ _ => False, fun _ _ x => by
  obtain ⟨_, _, _, _, _, _, _, _, _, _, _, _, _, _, _, _, z⟩ := x
  exact z.elim, fun _ _ _ _ ⟨_, _, _, _, _, _, _, z⟩ => z.elim⟩
structure Go (X : Cx) (P : XP) (F : Hp) (M : Cells) (δ : Slots) (σ : L2.St) (H : Hp) : Prop where
  st : Stt X.K F M δ σ H
  tk : TakesP X P F

def upE (K : PySem.W.Frag) (F : Hp) (δ : Slots) (σ : L2.St) (Q : D → Cells → Prop) : VK := fun v H' => ∃ F' M' d, Same F F' ∧ Stt K F' M' δ σ H' ∧ Rep K F' v d ∧ Q d M'
def upT (K : PySem.W.Frag) (F : Hp) (δ : Slots) (σ : L2.St) (Q : Bool → Cells → Prop) : Bool → Hp → Prop := fun b H' => ∃ F' M', Same F F' ∧ Stt K F' M' δ σ H' ∧ Q b M'
def upA (K : PySem.W.Frag) (F : Hp) (δ : Slots) (σ : L2.St) (Q : List D → Cells → Prop) : List V → Hp → Prop := fun vs H' => ∃ F' M' ds, Same F F' ∧ Stt K F' M' δ σ H' ∧ Reps K F' vs ds ∧ Q ds M'
def tE (X : Cx) (e : Expr) : TE := fun σ H Q => ∀ pins s, Inv X pins σ H s → wpAny (model X.prog X.w) X.A (eval e X.env) (EP X pins σ Q) X.xe s
def tT (X : Cx) (e : Expr) : TT := fun σ H Q => ∀ pins s, Inv X pins σ H s → wpAny (model X.prog X.w) X.A (isTrue e X.env (eval e X.env)) (TP X pins σ Q) X.xe s
def tW (X : Cx) (e : Expr) : TT := fun σ H Q => ∀ whole pins s, Inv X pins σ H s → wpAny (model X.prog X.w) X.A (isTrue e X.env whole) (TP X pins σ Q) X.xe s
def tA (X : Cx) (es : List Expr) : TA := fun σ H Q => ∀ (pos : Pos) pins s, Inv X pins σ H s → wpAny (model X.prog X.w) X.A (spliced (backTo pos (starEach es X.env))) (AP X pins σ Q) X.xe s
theorem pe_sem {X : Cx} {e : Expr} : PE X e (tE X e) := ⟨fun pins s _ _ _ I h => h pins s I⟩
theorem pt_sem {X : Cx} {e : Expr} : PT X e (tT X e) := ⟨fun pins s _ _ _ I h => h pins s I⟩
theorem pw_sem {X : Cx} {e : Expr} : PW X e (tW X e) := ⟨fun w pins s _ _ _ I h => h w pins s I⟩
theorem pa_sem {X : Cx} {es : List Expr} : PA X es (tA X es) := ⟨fun pos pins s _ _ _ I h => h pos pins s I⟩
def WE (X : Cx) (P : XP) (e : Expr) (δ : Slots) (M : Cells) (Q : D → Cells → Prop) : Prop := ∀ σ H F, Go X P F M δ σ H → tE X e σ H (upE X.K F δ σ Q)
def WT (X : Cx) (P : XP) (e : Expr) (δ : Slots) (M : Cells) (Q : Bool → Cells → Prop) : Prop := ∀ σ H F, Go X P F M δ σ H → tT X e σ H (upT X.K F δ σ Q)
def WW (X : Cx) (P : XP) (e : Expr) (δ : Slots) (M : Cells) (Q : Bool → Cells → Prop) : Prop := ∀ σ H F, Go X P F M δ σ H → tW X e σ H (upT X.K F δ σ Q)
def WA (X : Cx) (P : XP) (es : List Expr) (δ : Slots) (M : Cells) (Q : List D → Cells → Prop) : Prop := ∀ σ H F, Go X P F M δ σ H → tA X es σ H (upA X.K F δ σ Q)

section
variable {X : Cx} {P : XP} {F : Hp} {M : Cells} {δ : Slots} {σ : L2.St} {H : Hp} {e a b c : Expr} {es : List Expr} {pos : Pos}
theorem EP.mono {pins : List (Addr × Obj)} {Q Q' : VK} (k : ∀ v H', Q v H' → Q' v H') {u : Value} {s : Shared} (h : EP X pins σ Q u s) : EP X pins σ Q' u s :=
  let ⟨v, H', I, r, q⟩ := h; ⟨v, H', I, r, k v H' q⟩
theorem tE.mono {Q Q' : VK} (h : tE X e σ H Q) (k : ∀ v H', Q v H' → Q' v H') : tE X e σ H Q' := fun pins s I => thn (h pins s I) fun _ _ q => EP.mono k q
theorem tT.mono {Q Q' : Bool → Hp → Prop} (h : tT X e σ H Q) (k : ∀ v H', Q v H' → Q' v H') : tT X e σ H Q' := fun pins s I => thn (h pins s I) fun _ _ ⟨H', I', q⟩ => ⟨H', I', k _ _ q⟩
theorem tW.mono {Q Q' : Bool → Hp → Prop} (h : tW X e σ H Q) (k : ∀ v H', Q v H' → Q' v H') : tW X e σ H Q' := fun w pins s I => thn (h w pins s I) fun _ _ ⟨H', I', q⟩ => ⟨H', I', k _ _ q⟩
theorem tA.mono {Q Q' : List V → Hp → Prop} (h : tA X es σ H Q) (k : ∀ v H', Q v H' → Q' v H') : tA X es σ H Q' := fun pos pins s I => thn (h pos pins s I) fun _ _ ⟨vs, H', I', r, q⟩ => ⟨vs, H', I', r, k _ _ q⟩
theorem WE.go {Q : D → Cells → Prop} (h : WE X P e δ M Q) (G : Go X P F M δ σ H) {Q' : VK} (k : ∀ v H' F' M' d, Same F F' → Go X P F' M' δ σ H' → Rep X.K F' v d → Q d M' → Q' v H') : tE X e σ H Q' :=
  (h σ H F G).mono fun v H' ⟨F', M', d, s, S, r, q⟩ => k v H' F' M' d s ⟨S, G.tk.up s⟩ r q
theorem WT.go {Q : Bool → Cells → Prop} (h : WT X P e δ M Q) (G : Go X P F M δ σ H) {Q' : Bool → Hp → Prop} (k : ∀ v H' F' M', Same F F' → Go X P F' M' δ σ H' → Q v M' → Q' v H') : tT X e σ H Q' :=
  (h σ H F G).mono fun v H' ⟨F', M', s, S, q⟩ => k v H' F' M' s ⟨S, G.tk.up s⟩ q
theorem WW.go {Q : Bool → Cells → Prop} (h : WW X P e δ M Q) (G : Go X P F M δ σ H) {Q' : Bool → Hp → Prop} (k : ∀ v H' F' M', Same F F' → Go X P F' M' δ σ H' → Q v M' → Q' v H') : tW X e σ H Q' :=
  (h σ H F G).mono fun v H' ⟨F', M', s, S, q⟩ => k v H' F' M' s ⟨S, G.tk.up s⟩ q
theorem WA.go {Q : List D → Cells → Prop} (h : WA X P es δ M Q) (G : Go X P F M δ σ H) {Q' : List V → Hp → Prop} (k : ∀ vs H' F' M' ds, Same F F' → Go X P F' M' δ σ H' → Reps X.K F' vs ds → Q ds M' → Q' vs H') : tA X es σ H Q' :=
  (h σ H F G).mono fun v H' ⟨F', M', d, s, S, r, q⟩ => k v H' F' M' d s ⟨S, G.tk.up s⟩ r q
theorem we_of {t : TE} {Q : D → Cells → Prop} (p : PE X e t) (h : ∀ σ H F, Go X P F M δ σ H → t σ H (upE X.K F δ σ Q)) : WE X P e δ M Q := fun σ H F G pins s I => p.run pins s σ H _ I (h σ H F G)
theorem wt_of {t : TT} {Q : Bool → Cells → Prop} (p : PT X e t) (h : ∀ σ H F, Go X P F M δ σ H → t σ H (upT X.K F δ σ Q)) : WT X P e δ M Q := fun σ H F G pins s I => p.run pins s σ H _ I (h σ H F G)
theorem ww_of {t : TT} {Q : Bool → Cells → Prop} (p : PW X e t) (h : ∀ σ H F, Go X P F M δ σ H → t σ H (upT X.K F δ σ Q)) : WW X P e δ M Q := fun σ H F G w pins s I => p.run w pins s σ H _ I (h σ H F G)
theorem wa_of {t : TA} {Q : List D → Cells → Prop} (p : PA X es t) (h : ∀ σ H F, Go X P F M δ σ H → t σ H (upA X.K F δ σ Q)) : WA X P es δ M Q := fun σ H F G pos pins s I => p.run pos pins s σ H _ I (h σ H F G)
theorem ret {K : PySem.W.Frag} {F0 F : Hp} {δ : Slots} {σ : L2.St} {H : Hp} {M : Cells} {Q : D → Cells → Prop} {v : V} {d : D} (S : Stt K F M δ σ H) (s : Same F0 F) (r : Rep K F v d) (q : Q d M) : upE K F0 δ σ Q v H := ⟨F, M, d, s, S, r, q⟩
theorem upE.base {K : PySem.W.Frag} {F0 F : Hp} {δ : Slots} {σ : L2.St} {H : Hp} {Q : D → Cells → Prop} {v : V} (s : Same F0 F) (h : upE K F δ σ Q v H) : upE K F0 δ σ Q v H := by
  obtain ⟨F', M', d, s', r⟩ := h; exact ⟨F', M', d, s.trans s', r⟩
theorem upT.base {K : PySem.W.Frag} {F0 F : Hp} {δ : Slots} {σ : L2.St} {H : Hp} {Q : Bool → Cells → Prop} {v : Bool} (s : Same F0 F) (h : upT K F δ σ Q v H) : upT K F0 δ σ Q v H := by
  obtain ⟨F', M', s', r⟩ := h; exact ⟨F', M', s.trans s', r⟩
theorem upA.base {K : PySem.W.Frag} {F0 F : Hp} {δ : Slots} {σ : L2.St} {H : Hp} {Q : List D → Cells → Prop} {v : List V} (s : Same F0 F) (h : upA K F δ σ Q v H) : upA K F0 δ σ Q v H := by
  obtain ⟨F', M', d, s', r⟩ := h; exact ⟨F', M', d, s.trans s', r⟩
theorem WE.imp {Q Q' : D → Cells → Prop} (h : WE X P e δ M Q) (k : ∀ d M', Q d M' → Q' d M') : WE X P e δ M Q' := fun σ H F G => h.go G fun v H' F' M' d s G' r q => ret G'.st s r (k d M' q)
theorem WT.imp {Q Q' : Bool → Cells → Prop} (h : WT X P e δ M Q) (k : ∀ d M', Q d M' → Q' d M') : WT X P e δ M Q' := fun σ H F G => h.go G fun v H' F' M' s G' q => ⟨F', M', s, G'.st, k _ _ q⟩
theorem WA.imp {Q Q' : List D → Cells → Prop} (h : WA X P es δ M Q) (k : ∀ d M', Q d M' → Q' d M') : WA X P es δ M Q' := fun σ H F G => h.go G fun v H' F' M' d s G' r q => ⟨F', M', d, s, G'.st, r, k _ _ q⟩

theorem we_name {i : Nat} {x : Str} {Q : D → Cells → Prop} {d : D} (hN : X.N[i]? = some x) (hv : Vis X.env.scope x) (hd : δ[i]? = some (some d)) (h : Q d M) (h1 : (x == ("__debug__" : Str)) = false := by decide) (h2 : (x == ("__classdict__" : Str)) = false := by decide) : WE X P (.Name x pos) δ M Q :=
  we_of (pe_var hN hv h1 h2) fun σ H F G => let ⟨v, h1, h2⟩ := G.st.slot i d hd; ⟨v, h1, ret G.st (Same.refl _) h2 h⟩
theorem we_int {i : Int} {j} {Q : D → Cells → Prop} (h : Q (.int i) M) : WE X P (.Constant (.int i) j pos) δ M Q := we_of pe_int fun σ H F G => ret G.st (Same.refl _) (.int i) h
theorem we_bl {i : Bool} {j} {Q : D → Cells → Prop} (h : Q (.bl i) M) : WE X P (.Constant (.bool i) j pos) δ M Q := we_of pe_bl fun σ H F G => ret G.st (Same.refl _) (.bl i) h
theorem we_non {j} {Q : D → Cells → Prop} (h : Q .non M) : WE X P (.Constant .none j pos) δ M Q := we_of pe_non fun σ H F G => ret G.st (Same.refl _) .non h
theorem we_str {x : Str} {j} {Q : D → Cells → Prop} (h : Q (.str x) M) : WE X P (.Constant (.str x) j pos) δ M Q := we_of pe_str fun σ H F G => ret G.st (Same.refl _) (.str x) h
/-- a module's constant -/
theorem we_glob {x : Str} {d : D} {v : V} {u : Value} {Q : D → Cells → Prop} (hg : Gl X x) (hm : X.mg x = some u) (r : RelV v u) (rd : ∀ K F, Rep K F v d) (h : Q d M) (hd : (x == ("__debug__" : Str)) = false := by decide) : WE X P (.Name x pos) δ M Q :=
  we_of (pe_glob hg hm r hd) fun σ H F G => ret G.st (Same.refl _) (rd _ _) h
/-- a built-in class or function as a value -/
theorem we_bltn {x : Str} {v : V} {u : Value} {Q : D → Cells → Prop} (hg : Gl X x) (hm : X.mg x = none) (hv : bootBuiltins x = some u) (r : RelV v u) (h : Q (.raw v) M) (hn : x ≠ "__name__" := by decide) (hd : (x == ("__debug__" : Str)) = false := by decide) : WE X P (.Name x pos) δ M Q :=
  we_of (pe_bltn hg hm hv r hn hd) fun σ H F G => ret G.st (Same.refl _) (.raw v) h

abbrev RD2 := D → D → Cells → (D → Cells → Prop) → Prop
def Lift2 (X : Cx) (r : R2) (R : RD2) : Prop := ∀ {F0 F : Hp} {M : Cells} {δ : Slots} {σ : L2.St} {H : Hp} {x y : V} {d e : D} {Q : D → Cells → Prop} {Q' : VK}, (∀ v H', upE X.K F0 δ σ Q v H' → Q' v H') → Same F0 F → Stt X.K F M δ σ H → Rep X.K F x d → Rep X.K F y e → R d e M Q → r x y H Q'
abbrev RD1 := D → Cells → (D → Cells → Prop) → Prop
def Lift1 (X : Cx) (r : V → Hp → VK → Prop) (R : RD1) : Prop := ∀ {F0 F : Hp} {M : Cells} {δ : Slots} {σ : L2.St} {H : Hp} {x : V} {d : D} {Q : D → Cells → Prop} {Q' : VK}, (∀ v H', upE X.K F0 δ σ Q v H' → Q' v H') → Same F0 F → Stt X.K F M δ σ H → Rep X.K F x d → R d M Q → r x H Q'
abbrev RDA := List D → Cells → (D → Cells → Prop) → Prop
def LiftA (X : Cx) (r : List V → Hp → VK → Prop) (R : RDA) : Prop := ∀ {F0 F : Hp} {M : Cells} {δ : Slots} {σ : L2.St} {H : Hp} {xs : List V} {ds : List D} {Q : D → Cells → Prop} {Q' : VK}, (∀ v H', upE X.K F0 δ σ Q v H' → Q' v H') → Same F0 F → Stt X.K F M δ σ H → Reps X.K F xs ds → R ds M Q → r xs H Q'
theorem bind2 {ea eb : Expr} {R : RD2} {r : R2} {Q : D → Cells → Prop} {Q' : VK} (k : ∀ v H', upE X.K F δ σ Q v H' → Q' v H') (L : Lift2 X r R) (h : WE X P ea δ M fun d M1 => WE X P eb δ M1 fun e M2 => R d e M2 Q) (G : Go X P F M δ σ H) : tOp r (tE X ea) (tE X eb) σ H Q' :=
  h.go G fun v H1 F1 M1 d s1 G1 r1 q1 => q1.go G1 fun u H2 F2 M2 e s2 G2 r2 q2 => L k (s1.trans s2) G2.st (r1.up s2) r2 q2
theorem we_op {op : Operator} {r : R2} {R : RD2} {Q : D → Cells → Prop} (ho : OpR X (binaryOp op) r) (L : Lift2 X r R) (h : WE X P a δ M fun d M1 => WE X P b δ M1 fun e M2 => R d e M2 Q) : WE X P (.BinOp a op b pos) δ M Q :=
  we_of (pe_op ho pe_sem pe_sem) fun σ H F G => bind2 (fun _ _ z => z) L h G
theorem we_un {op : UnaryOp} {r : V → Hp → VK → Prop} {R : RD1} {Q : D → Cells → Prop} (ho : UnR X (unaryOp op) r) (L : Lift1 X r R) (h : WE X P a δ M fun d M1 => R d M1 Q) : WE X P (.UnaryOp op a pos) δ M Q :=
  we_of (pe_un ho pe_sem) fun σ H F G => h.go G fun v H1 F1 M1 d s1 G1 r1 q1 => L (fun _ _ z => z) s1 G1.st r1 q1
theorem we_cmp {op : CmpOp} {r : R2} {R : RD2} {Q : D → Cells → Prop} (ho : OpR X (compareOp op) r) (L : Lift2 X r R) (hm : behindInMarks op b = false) (h : WE X P a δ M fun d M1 => WE X P b δ M1 fun e M2 => R d e M2 Q) : WE X P (.Compare a [op] [b] pos) δ M Q :=
  we_of (pe_cmpR ho pe_sem pe_sem hm) fun σ H F G => bind2 (fun _ _ z => z) L h G
/-- what comes is a bool -/
def onB (Q : Bool → Cells → Prop) : D → Cells → Prop := fun d M => ∃ k, d = .bl k ∧ Q k M
theorem onB_up {K : PySem.W.Frag} {F : Hp} {δ : Slots} {σ : L2.St} {H : Hp} {Q : Bool → Cells → Prop} {v : V} (h : upE K F δ σ (onB Q) v H) : ∃ k, v = .bl k ∧ upT K F δ σ Q k H := by
  obtain ⟨F', M', d, s, S, r, k, rfl, q⟩ := h
  cases r
  exact ⟨k, rfl, F', M', s, S, q⟩
theorem wt_cmp {op : CmpOp} {r : R2} {R : RD2} {Q : Bool → Cells → Prop} (ho : OpR X (compareOp op) r) (L : Lift2 X r R) (hm : behindInMarks op b = false) (h : WE X P a δ M fun d M1 => WE X P b δ M1 fun e M2 => R d e M2 (onB Q)) : WT X P (.Compare a [op] [b] pos) δ M Q :=
  wt_of (pt_cmpR ho pe_sem pe_sem hm) fun σ H F G => bind2 (fun _ _ z => onB_up z) L h G
theorem bind3 {ea eb ec : Expr} {R R' : RD2} {r r' : R2} {Q : D → Cells → Prop} {Q' : VK} (k : ∀ v H', upE X.K F δ σ Q v H' → Q' v H') (L : Lift2 X r R) (L' : Lift2 X r' R')
    (h : WE X P ea δ M fun d M1 => WE X P eb δ M1 fun e M2 => R d e M2 fun z M3 => ∃ b, z = .bl b ∧ if b = true then WE X P ec δ M3 fun f M4 => R' e f M4 Q else Q (.bl false) M3) (G : Go X P F M δ σ H) : tChain r r' (tE X ea) (tE X eb) (tE X ec) σ H Q' :=
  h.go G fun v H1 F1 M1 d s1 G1 r1 q1 => q1.go G1 fun u H2 F2 M2 e s2 G2 r2 q2 => L (fun v3 H3 z => by
    obtain ⟨F3, M3, d3, s3, S3, r3, b, rfl, q3⟩ := z
    cases r3
    refine ⟨b, rfl, ?_⟩
    have s03 : Same F F3 := (s1.trans s2).trans s3
    cases b with
    | false => rw [if_neg (by decide)] at q3 ⊢; exact k _ _ ⟨F3, M3, _, s03, S3, .bl _, q3⟩
    | true =>
      rw [if_pos rfl] at q3 ⊢
      exact q3.go ⟨S3, G2.tk.up s3⟩ fun w H4 F4 M4 f s4 G4 r4 q4 => L' k (s03.trans s4) G4.st (r2.up (s3.trans s4)) r4 q4) (Same.refl F2) G2.st (r1.up s2) r2 q2
theorem we_chain {op op' : CmpOp} {R R' : RD2} {r r' : R2} {Q : D → Cells → Prop} (ho : OpR X (compareOp op) r) (ho' : OpR X (compareOp op') r') (L : Lift2 X r R) (L' : Lift2 X r' R')
    (h : WE X P a δ M fun d M1 => WE X P b δ M1 fun e M2 => R d e M2 fun z M3 => ∃ k, z = .bl k ∧ if k = true then WE X P c δ M3 fun f M4 => R' e f M4 Q else Q (.bl false) M3)
    (hm : lastMarks [op, op'] [b, c] = false := by with_unfolding_all rfl) : WE X P (.Compare a [op, op'] [b, c] pos) δ M Q :=
  we_of (pe_chain ho ho' pe_sem pe_sem pe_sem hm) fun σ H F G => bind3 (fun _ _ z => z) L L' h G
theorem wt_chain {op op' : CmpOp} {R R' : RD2} {r r' : R2} {Q : Bool → Cells → Prop} (ho : OpR X (compareOp op) r) (ho' : OpR X (compareOp op') r') (L : Lift2 X r R) (L' : Lift2 X r' R')
    (h : WE X P a δ M fun d M1 => WE X P b δ M1 fun e M2 => R d e M2 fun z M3 => ∃ k, z = .bl k ∧ if k = true then WE X P c δ M3 fun f M4 => R' e f M4 (onB Q) else onB Q (.bl false) M3)
    (hm : lastMarks [op, op'] [b, c] = false := by with_unfolding_all rfl) : WT X P (.Compare a [op, op'] [b, c] pos) δ M Q :=
  wt_of (pt_chain ho ho' pe_sem pe_sem pe_sem hm) fun σ H F G => bind3 (fun _ _ z => onB_up z) L L' h G

theorem wt_val {Q : Bool → Cells → Prop} (h : WE X P e δ M (onB Q)) (he : ∀ whole, isTrue e X.env whole = (do let v ← whole; standAt e.pos; holding [v] (truthy v)) := by intro _; rfl) : WT X P e δ M Q :=
  wt_of (pt_val pe_sem he) fun σ H F G => h.go G fun v H' F' M' d s G' r q => onB_up (ret G'.st s r q)
theorem wt_not {Q : Bool → Cells → Prop} (h : WT X P a δ M fun k M' => Q (!k) M') : WT X P (.UnaryOp .Not a pos) δ M Q :=
  wt_of (pt_not pt_sem) fun σ H F G => h.go G fun v H' F' M' s G' q => ⟨F', M', s, G'.st, q⟩
theorem ww_wt {Q : Bool → Cells → Prop} (h : WW X P e δ M Q) : WT X P e δ M Q := wt_of pw_sem.pt h
theorem ww_and1 {Q : Bool → Cells → Prop} (h : WT X P a δ M Q) : WW X P (.BoolOp .And [a] pos) δ M Q := ww_of (pw_and1 pt_sem) h
theorem ww_or1 {Q : Bool → Cells → Prop} (h : WT X P a δ M Q) : WW X P (.BoolOp .Or [a] pos) δ M Q := ww_of (pw_or1 pt_sem) h
theorem ww_and {Q : Bool → Cells → Prop} (h : WT X P a δ M fun k M' => if k = true then WW X P (.BoolOp .And (b :: es) pos) δ M' Q else Q false M') : WW X P (.BoolOp .And (a :: b :: es) pos) δ M Q :=
  ww_of (pw_and pt_sem pw_sem) fun σ H F G => h.go G fun v H' F' M' s G' q => by
    cases v with
    | true => rw [if_pos rfl] at q ⊢; exact q.go G' fun _ _ F2 M2 s2 G2 q2 => ⟨F2, M2, s.trans s2, G2.st, q2⟩
    | false => rw [if_neg (by decide)] at q ⊢; exact ⟨F', M', s, G'.st, q⟩
theorem ww_or {Q : Bool → Cells → Prop} (h : WT X P a δ M fun k M' => if k = true then Q true M' else WW X P (.BoolOp .Or (b :: es) pos) δ M' Q) : WW X P (.BoolOp .Or (a :: b :: es) pos) δ M Q :=
  ww_of (pw_or pt_sem pw_sem) fun σ H F G => h.go G fun v H' F' M' s G' q => by
    cases v with
    | true => rw [if_pos rfl] at q ⊢; exact ⟨F', M', s, G'.st, q⟩
    | false => rw [if_neg (by decide)] at q ⊢; exact q.go G' fun _ _ F2 M2 s2 G2 q2 => ⟨F2, M2, s.trans s2, G2.st, q2⟩
theorem we_one {op} {Q : D → Cells → Prop} (h : WE X P a δ M Q) : WE X P (.BoolOp op [a] pos) δ M Q := we_of (pe_one pe_sem) h
theorem we_and {Q : D → Cells → Prop} (h : WE X P a δ M fun d M' => ∃ k, d = .bl k ∧ if k = true then WE X P (.BoolOp .And (b :: es) pos) δ M' Q else Q (.bl false) M') : WE X P (.BoolOp .And (a :: b :: es) pos) δ M Q :=
  we_of (pe_and pe_sem pe_sem) fun σ H F G => h.go G fun v H' F' M' d s G' r q => by
    obtain ⟨k, rfl, q⟩ := q
    cases r
    refine ⟨k, rfl, ?_⟩
    cases k with
    | true => rw [if_pos rfl] at q ⊢; exact q.go G' fun _ _ F2 M2 _ s2 G2 r2 q2 => ret G2.st (s.trans s2) r2 q2
    | false => rw [if_neg (by decide)] at q ⊢; exact ret G'.st s (.bl _) q
theorem we_or {Q : D → Cells → Prop} (h : WE X P a δ M fun d M' => ∃ k, d = .bl k ∧ if k = true then Q (.bl true) M' else WE X P (.BoolOp .Or (b :: es) pos) δ M' Q) : WE X P (.BoolOp .Or (a :: b :: es) pos) δ M Q :=
  we_of (pe_or pe_sem pe_sem) fun σ H F G => h.go G fun v H' F' M' d s G' r q => by
    obtain ⟨k, rfl, q⟩ := q
    cases r
    refine ⟨k, rfl, ?_⟩
    cases k with
    | true => rw [if_pos rfl] at q ⊢; exact ret G'.st s (.bl _) q
    | false => rw [if_neg (by decide)] at q ⊢; exact q.go G' fun _ _ F2 M2 _ s2 G2 r2 q2 => ret G2.st (s.trans s2) r2 q2
theorem we_not {Q : D → Cells → Prop} (h : WE X P a δ M fun d M' => ∃ k, d = .bl k ∧ Q (.bl (!k)) M') : WE X P (.UnaryOp .Not a pos) δ M Q :=
  we_of (pe_not pe_sem) fun σ H F G => h.go G fun v H' F' M' d s G' r q => by
    obtain ⟨k, rfl, q⟩ := q
    cases r
    exact ⟨k, rfl, ret G'.st s (.bl _) q⟩
theorem we_if {Q : D → Cells → Prop} (h : WT X P c δ M fun k M' => if k = true then WE X P a δ M' Q else WE X P b δ M' Q) : WE X P (.IfExp c a b pos) δ M Q :=
  we_of (pe_ifExp pt_sem pe_sem pe_sem) fun σ H F G => h.go G fun v H' F' M' s G' q => by
    cases v with
    | true => rw [if_pos rfl] at q ⊢; exact q.go G' fun _ _ F2 M2 _ s2 G2 r2 q2 => ret G2.st (s.trans s2) r2 q2
    | false => rw [if_neg (by decide)] at q ⊢; exact q.go G' fun _ _ F2 M2 _ s2 G2 r2 q2 => ret G2.st (s.trans s2) r2 q2

theorem wa_nil {Q : List D → Cells → Prop} (h : Q [] M) : WA X P [] δ M Q := wa_of pa_nil fun σ H F G => ⟨F, M, [], Same.refl _, G.st, .nil, h⟩
theorem wa_cons {Q : List D → Cells → Prop} (h : WE X P e δ M fun d M1 => WA X P es δ M1 fun ds M2 => Q (d :: ds) M2) (hs : starEach (e :: es) X.env = (false, eval e X.env) :: starEach es X.env := by rfl) : WA X P (e :: es) δ M Q :=
  wa_of (pa_cons pe_sem pa_sem hs) fun σ H F G => h.go G fun v H1 F1 M1 d s1 G1 r1 q1 => q1.go G1 fun vs H2 F2 M2 ds s2 G2 r2 q2 => ⟨F2, M2, d :: ds, s1.trans s2, G2.st, .cons (r1.up s2) r2, q2⟩
theorem we_tup {x1} {Q : D → Cells → Prop} (h : WA X P es δ M fun ds M1 => ds.length ≤ sizeLine ∧ Q (.tup ds) M1) : WE X P (.Tuple es x1 pos) δ M Q :=
  we_of (pe_tup pa_sem) fun σ H F G => h.go G fun vs H1 F1 M1 ds s1 G1 r1 q1 => ⟨by rw [r1.length]; exact q1.1, fun p hp => by
    obtain ⟨S, s⟩ := G1.st.froz (o := .tup vs) hp
    exact ret S (s1.trans s) (.tup (.of upd_same) (r1.up s)) q1.2⟩
/-- [..], frozen -/
theorem we_lst {Q : D → Cells → Prop} (h : WA X P es δ M fun ds M1 => ds.length ≤ sizeLine ∧ Q (.lst ds) M1) : WE X P (.List es pos) δ M Q :=
  we_of (pe_lst pa_sem) fun σ H F G => h.go G fun vs H1 F1 M1 ds s1 G1 r1 q1 => ⟨by rw [r1.length]; exact q1.1, fun p hp => by
    obtain ⟨S, s⟩ := G1.st.froz (o := .lst vs) hp
    exact ret S (s1.trans s) (.lst (.of upd_same) (r1.up s)) q1.2⟩
theorem Stt.newL {K : PySem.W.Frag} {F : Hp} {M : Cells} {δ : Slots} {σ : L2.St} {H : Hp} (S : Stt K F M δ σ H) {p : Addr} {vs : List V} {ds : List D} (hp : H p = none) (r : Reps K F vs ds) : Stt K F ((p, .lst ds) :: M) δ σ (upd H p (.lst vs)) :=
  S.newCell hp ⟨vs, upd_same, r⟩
/-- [..], a cell -/
theorem we_lstC {Q : D → Cells → Prop} (h : WA X P es δ M fun ds M1 => ds.length ≤ sizeLine ∧ ∀ p, Q (.cel p) ((p, .lst ds) :: M1)) : WE X P (.List es pos) δ M Q :=
  we_of (pe_lst pa_sem) fun σ H F G => h.go G fun vs H1 F1 M1 ds s1 G1 r1 q1 => ⟨by rw [r1.length]; exact q1.1, fun p hp => ret (G1.st.newL hp r1) s1 (.cel p) (q1.2 p)⟩
/-- a cell is frozen -/
theorem we_froz (k : Nat) {Q : D → Cells → Prop} (h : WE X P e δ M fun d M1 => ∃ (p : Addr) (ds : List D), d = .cel p ∧ M1[k]? = some (p, .lst ds) ∧ Q (.lst ds) (M1.eraseIdx k)) : WE X P e δ M Q := fun σ H F G =>
  h.go G fun v H1 F1 M1 d s1 G1 r1 q1 => by
    obtain ⟨p, ds, rfl, hk, q⟩ := q1
    cases r1
    obtain ⟨F2, s2, S2, r2⟩ := G1.st.freeze hk
    exact ret S2 (s1.trans s2) r2 q
end
end PW
/-! PW3 -/
namespace PW
open PySem L2 PyProof.Rows

section
variable {X : Cx} {P : XP} {F : Hp} {M : Cells} {δ : Slots} {σ : L2.St} {H : Hp} {e a b c o : Expr} {es : List Expr} {pos apos p p2 : Pos}

theorem lift_I {C : Int → Int → Prop} {g : Int → Int → Int} : Lift2 X (rI C fun i j => .int (g i j)) (fun d e M Q => ∃ i j, d = .int i ∧ e = .int j ∧ C i j ∧ Q (.int (g i j)) M) := fun k s S r1 r2 h => by
  obtain ⟨i, j, rfl, rfl, hc, q⟩ := h
  cases r1; cases r2
  exact ⟨i, j, rfl, rfl, hc, k _ _ (ret S s (.int _) q)⟩
theorem lift_I0 {g : Int → Int → Int} : Lift2 X (rI0 fun i j => .int (g i j)) (fun d e M Q => ∃ i j, d = .int i ∧ e = .int j ∧ Q (.int (g i j)) M) := fun k s S r1 r2 h => by
  obtain ⟨i, j, rfl, rfl, q⟩ := h
  cases r1; cases r2
  exact ⟨i, j, rfl, rfl, k _ _ (ret S s (.int _) q)⟩
theorem lift_B0 {g : Int → Int → Bool} : Lift2 X (rI0 fun i j => .bl (g i j)) (fun d e M Q => ∃ i j, d = .int i ∧ e = .int j ∧ Q (.bl (g i j)) M) := fun k s S r1 r2 h => by
  obtain ⟨i, j, rfl, rfl, q⟩ := h
  cases r1; cases r2
  exact ⟨i, j, rfl, rfl, k _ _ (ret S s (.bl _) q)⟩
theorem Lift2.or {r r' : R2} {R R' : RD2} (h : Lift2 X r R) (h' : Lift2 X r' R') : Lift2 X (fun x y H Q => r x y H Q ∨ r' x y H Q) (fun d e M Q => R d e M Q ∨ R' d e M Q) := fun k s S r1 r2 q => q.elim (fun q => .inl (h k s S r1 r2 q)) fun q => .inr (h' k s S r1 r2 q)
theorem LiftA.or {r r' : List V → Hp → VK → Prop} {R R' : RDA} (h : LiftA X r R) (h' : LiftA X r' R') : LiftA X (fun x H Q => r x H Q ∨ r' x H Q) (fun d M Q => R d M Q ∨ R' d M Q) := fun k s S r1 q => q.elim (fun q => .inl (h k s S r1 q)) fun q => .inr (h' k s S r1 q)

def rCatQ (K : PySem.W.Frag) : R2 := fun x y H Q => ∃ l b xs zs, x = .ref l ∧ y = .ref b ∧ SqL K H l xs ∧ SqL K H b zs ∧ xs.length + zs.length ≤ sizeLine ∧ ∀ p, H p = none → Q (.ref p) (upd H p (.lst (xs ++ zs)))
theorem op_catQ : OpR X (binaryOp .Add) (rCatQ X.K) := by
  intro pins s σ H x y v u Q I rx ry h
  obtain ⟨l, b, xs, zs, rfl, rfl, hH, hB, hz, q⟩ := h
  cases rx
  cases ry
  obtain ⟨its, r, ⟨o, n, e, c, d0, d⟩, z⟩ := I.list hH
  obtain ⟨its2, r2, ⟨o2, n2, e2, c2, d02, d2⟩, z2⟩ := I.list hB
  have l1 := r.length
  have l2 := r2.length
  obtain ⟨oc, od, dt, sl⟩ := o
  obtain ⟨oc2, od2, dt2, sl2⟩ := o2
  simp only at c d0 d c2 d02 d2
  subst c d0 d c2 d02 d2
  have ea : its.toArray ++ its2.toArray = (its ++ its2).toArray := by simp
  refine concat_meets ⟨_, e, rfl⟩ ⟨_, e2, rfl⟩ noFill_list_add seq_list_add PySem.F.slot_list_add PySem.F.entry_list_add (PySem.F.args_list_add_2 _ _) (list_addW l b its.toArray its2.toArray n n2 none none sl sl2 (by rw [List.size_toArray, List.size_toArray, ← l1, ← l2]; exact hz)) ⟨e, e2, ?_⟩
  rw [ea]
  exact ⟨.ref _, _, I.lnew (t' := s.toks) (r.append r2) (by rw [List.length_append]; omega), rfl, q _ I.fresh⟩
theorem lift_cat : Lift2 X (rCatQ X.K) (fun d e M Q => ∃ ds es, LV M d ds ∧ LV M e es ∧ ds.length + es.length ≤ sizeLine ∧ Q (.lst (ds ++ es)) M) := fun k s S r1 r2 h => by
  obtain ⟨ds, es, h1, h2, hl, q⟩ := h
  obtain ⟨l, xs, rfl, q1, z1⟩ := S.readL r1 h1
  obtain ⟨l2, ys, rfl, q2, z2⟩ := S.readL r2 h2
  refine ⟨l, l2, xs, ys, rfl, rfl, q1, q2, by rw [z1.length, z2.length]; exact hl, fun p hp => k _ _ ?_⟩
  obtain ⟨S', s'⟩ := S.froz (o := .lst (xs ++ ys)) hp
  exact ret S' (s.trans s') (.lst (.of upd_same) ((z1.append z2).up s')) q
theorem lift_addS : Lift2 X (fun x y H Q => ∃ i j, x = .str i ∧ y = .str j ∧ i.length + j.length ≤ sizeLine ∧ Q (.str (i ++ j)) H) (fun d e M Q => ∃ i j, d = .str i ∧ e = .str j ∧ i.length + j.length ≤ sizeLine ∧ Q (.str (i ++ j)) M) := fun k s S r1 r2 h => by
  obtain ⟨i, j, rfl, rfl, hl, q⟩ := h
  cases r1; cases r2
  exact ⟨i, j, rfl, rfl, hl, k _ _ (ret S s (.str _) q)⟩
theorem we_addI {Q : D → Cells → Prop} (h : WE X P a δ M fun d M1 => WE X P b δ M1 fun e M2 => ∃ i j, d = .int i ∧ e = .int j ∧ Q (.int (i + j)) M2) : WE X P (.BinOp a .Add b pos) δ M Q := we_op op_add lift_I0 h
theorem we_addS {Q : D → Cells → Prop} (h : WE X P a δ M fun d M1 => WE X P b δ M1 fun e M2 => ∃ i j, d = .str i ∧ e = .str j ∧ i.length + j.length ≤ sizeLine ∧ Q (.str (i ++ j)) M2) : WE X P (.BinOp a .Add b pos) δ M Q := we_op op_add_str lift_addS h
theorem we_addL {Q : D → Cells → Prop} (h : WE X P a δ M fun d M1 => WE X P b δ M1 fun e M2 => ∃ ds es, LV M2 d ds ∧ LV M2 e es ∧ ds.length + es.length ≤ sizeLine ∧ Q (.lst (ds ++ es)) M2) : WE X P (.BinOp a .Add b pos) δ M Q := we_op op_catQ lift_cat h
def RAdd : RD2 := fun d e M Q => (∃ i j, d = .int i ∧ e = .int j ∧ Q (.int (i + j)) M) ∨ (∃ i j, d = .str i ∧ e = .str j ∧ i.length + j.length ≤ sizeLine ∧ Q (.str (i ++ j)) M) ∨ (∃ ds es, LV M d ds ∧ LV M e es ∧ ds.length + es.length ≤ sizeLine ∧ Q (.lst (ds ++ es)) M)
theorem we_add {Q : D → Cells → Prop} (h : WE X P a δ M fun d M1 => WE X P b δ M1 fun e M2 => RAdd d e M2 Q) : WE X P (.BinOp a .Add b pos) δ M Q := we_op (op_add.or (op_add_str.or op_catQ)) (lift_I0.or (lift_addS.or lift_cat)) h
theorem we_sub {Q : D → Cells → Prop} (h : WE X P a δ M fun d M1 => WE X P b δ M1 fun e M2 => ∃ i j, d = .int i ∧ e = .int j ∧ Q (.int (i - j)) M2) : WE X P (.BinOp a .Sub b pos) δ M Q := we_op op_sub lift_I0 h
theorem op_mulQ : OpR X (binaryOp .Mult) (rI IntMulOk fun i j => .int (i * j)) := opI fun _ _ _ _ _ _ _ hc q => mul_int q hc
theorem we_mul {Q : D → Cells → Prop} (h : WE X P a δ M fun d M1 => WE X P b δ M1 fun e M2 => ∃ i j, d = .int i ∧ e = .int j ∧ IntMulOk i j ∧ Q (.int (i * j)) M2) : WE X P (.BinOp a .Mult b pos) δ M Q := we_op op_mulQ lift_I h
def CFd (i j : Int) : Prop := j ≠ 0 ∧ j.natAbs.log2 < 9000
theorem op_fdQ : OpR X (binaryOp .FloorDiv) (rI CFd fun i j => .int (i.fdiv j)) := opI fun i j _ _ _ _ _ hc q => floordiv_int hc.1 q (.inl (PyProof.noPylong_of_log2 hc.2))
theorem we_fdiv {Q : D → Cells → Prop} (h : WE X P a δ M fun d M1 => WE X P b δ M1 fun e M2 => ∃ i j, d = .int i ∧ e = .int j ∧ CDivW i j ∧ Q (.int (i / j)) M2) : WE X P (.BinOp a .FloorDiv b pos) δ M Q := we_op op_fdivW lift_I h
theorem we_fdivN {Q : D → Cells → Prop} (h : WE X P a δ M fun d M1 => WE X P b δ M1 fun e M2 => ∃ i j, d = .int i ∧ e = .int j ∧ CFd i j ∧ Q (.int (i.fdiv j)) M2) : WE X P (.BinOp a .FloorDiv b pos) δ M Q := we_op op_fdQ lift_I h
theorem we_mod {Q : D → Cells → Prop} (h : WE X P a δ M fun d M1 => WE X P b δ M1 fun e M2 => ∃ i j, d = .int i ∧ e = .int j ∧ 0 < j ∧ Q (.int (i % j)) M2) : WE X P (.BinOp a .Mod b pos) δ M Q := we_op op_mod lift_I h
theorem we_modN {Q : D → Cells → Prop} (h : WE X P a δ M fun d M1 => WE X P b δ M1 fun e M2 => ∃ i j, d = .int i ∧ e = .int j ∧ j ≠ 0 ∧ Q (.int (i.fmod j)) M2) : WE X P (.BinOp a .Mod b pos) δ M Q := we_op op_modN lift_I h
def CPw (i j : Int) : Prop := 0 ≤ j ∧ (Builtin.Int.intBits i : Int) * j ≤ 2 ^ 27
theorem op_powQ : OpR X (binaryOp .Pow) (rI CPw fun i j => .int (i ^ j.toNat)) := opI fun _ _ _ _ _ _ _ hc q => pow_int hc.1 hc.2 q
theorem we_pow {Q : D → Cells → Prop} (h : WE X P a δ M fun d M1 => WE X P b δ M1 fun e M2 => ∃ i j, d = .int i ∧ e = .int j ∧ CPw i j ∧ Q (.int (i ^ j.toNat)) M2) : WE X P (.BinOp a .Pow b pos) δ M Q := we_op op_powQ lift_I h
theorem we_neg {Q : D → Cells → Prop} (h : WE X P a δ M fun d M1 => ∃ i, d = .int i ∧ Q (.int (-i)) M1) : WE X P (.UnaryOp .USub a pos) δ M Q := we_un (R := fun d M1 Q => ∃ i, d = .int i ∧ Q (.int (-i)) M1) un_neg (fun k s S r1 h => by
  obtain ⟨i, rfl, q⟩ := h
  cases r1
  exact ⟨i, rfl, k _ _ (ret S s (.int _) q)⟩) h

theorem we_lt {Q : D → Cells → Prop} (h : WE X P a δ M fun d M1 => WE X P b δ M1 fun e M2 => ∃ i j, d = .int i ∧ e = .int j ∧ Q (.bl (decide (i < j))) M2) : WE X P (.Compare a [.Lt] [b] pos) δ M Q := we_cmp op_lt lift_B0 (nomark _) h
theorem we_le {Q : D → Cells → Prop} (h : WE X P a δ M fun d M1 => WE X P b δ M1 fun e M2 => ∃ i j, d = .int i ∧ e = .int j ∧ Q (.bl (decide (i ≤ j))) M2) : WE X P (.Compare a [.LtE] [b] pos) δ M Q := we_cmp op_le lift_B0 (nomark _) h
theorem we_gt {Q : D → Cells → Prop} (h : WE X P a δ M fun d M1 => WE X P b δ M1 fun e M2 => ∃ i j, d = .int i ∧ e = .int j ∧ Q (.bl (decide (j < i))) M2) : WE X P (.Compare a [.Gt] [b] pos) δ M Q := we_cmp op_gt lift_B0 (nomark _) h
theorem we_ge {Q : D → Cells → Prop} (h : WE X P a δ M fun d M1 => WE X P b δ M1 fun e M2 => ∃ i j, d = .int i ∧ e = .int j ∧ Q (.bl (decide (j ≤ i))) M2) : WE X P (.Compare a [.GtE] [b] pos) δ M Q := we_cmp op_ge lift_B0 (nomark _) h
theorem wt_lt {Q : Bool → Cells → Prop} (h : WE X P a δ M fun d M1 => WE X P b δ M1 fun e M2 => ∃ i j, d = .int i ∧ e = .int j ∧ Q (decide (i < j)) M2) : WT X P (.Compare a [.Lt] [b] pos) δ M Q := wt_cmp op_lt lift_B0 (nomark _) (h.imp fun d M1 q => q.imp fun e M2 ⟨i, j, h1, h2, q⟩ => ⟨i, j, h1, h2, _, rfl, q⟩)
theorem wt_le {Q : Bool → Cells → Prop} (h : WE X P a δ M fun d M1 => WE X P b δ M1 fun e M2 => ∃ i j, d = .int i ∧ e = .int j ∧ Q (decide (i ≤ j)) M2) : WT X P (.Compare a [.LtE] [b] pos) δ M Q := wt_cmp op_le lift_B0 (nomark _) (h.imp fun d M1 q => q.imp fun e M2 ⟨i, j, h1, h2, q⟩ => ⟨i, j, h1, h2, _, rfl, q⟩)
theorem wt_gt {Q : Bool → Cells → Prop} (h : WE X P a δ M fun d M1 => WE X P b δ M1 fun e M2 => ∃ i j, d = .int i ∧ e = .int j ∧ Q (decide (j < i)) M2) : WT X P (.Compare a [.Gt] [b] pos) δ M Q := wt_cmp op_gt lift_B0 (nomark _) (h.imp fun d M1 q => q.imp fun e M2 ⟨i, j, h1, h2, q⟩ => ⟨i, j, h1, h2, _, rfl, q⟩)
theorem wt_ge {Q : Bool → Cells → Prop} (h : WE X P a δ M fun d M1 => WE X P b δ M1 fun e M2 => ∃ i j, d = .int i ∧ e = .int j ∧ Q (decide (j ≤ i)) M2) : WT X P (.Compare a [.GtE] [b] pos) δ M Q := wt_cmp op_ge lift_B0 (nomark _) (h.imp fun d M1 q => q.imp fun e M2 ⟨i, j, h1, h2, q⟩ => ⟨i, j, h1, h2, _, rfl, q⟩)

mutual
def py : D → PyData
  | .non => .none | .bl b => .bool b | .int i => .int i | .str x => .str x | .tup ds => .tuple (pys ds) | .lst ds => .list (pys ds) | .cel _ => .none | .raw _ => .none
def pys : List D → List PyData
  | [] => []
  | d :: ds => py d :: pys ds
end
mutual
/-- no cell, nothing raw within -/
def okD : D → Bool
  | .tup ds => okDs ds | .lst ds => okDs ds | .cel _ => false | .raw _ => false | _ => true
def okDs : List D → Bool
  | [] => true
  | d :: ds => okD d && okDs ds
end
mutual
theorem Rep.dp {K : PySem.W.Frag} {F H : Hp} (s : Same F H) : ∀ (d : D) (v : V), Rep K F v d → okD d = true → Dp K H v (py d)
  | .non, _, h, _ => by cases h; exact .non
  | .bl _, _, h, _ => by cases h; exact .bl _
  | .int _, _, h, _ => by cases h; exact .int _
  | .str _, _, h, _ => by cases h; exact .str _
  | .tup ds, _, h, k => by cases h with | tup a b => exact .tup (Same.tup s a) (Reps.dp s ds _ b k)
  | .lst ds, _, h, k => by cases h with | lst a b => exact .lst (s.seq a) (Reps.dp s ds _ b k)
  | .cel _, _, _, k => by cases k
  | .raw _, _, _, k => by cases k
theorem Reps.dp {K : PySem.W.Frag} {F H : Hp} (s : Same F H) : ∀ (ds : List D) (vs : List V), Reps K F vs ds → okDs ds = true → DpAll K H vs (pys ds)
  | [], _, h, _ => by cases h; exact .nil
  | d :: ds, _, h, k => by
    cases h with
    | cons a b =>
      have k' : (okD d && okDs ds) = true := k
      rw [Bool.and_eq_true] at k'
      exact .cons (Rep.dp s d _ a k'.1) (Reps.dp s ds _ b k'.2)
end
/-- d is data, frozen or a cell of such -/
def PV (M : Cells) (d : D) (q : PyData) : Prop := (okD d = true ∧ q = py d) ∨ ∃ (k : Nat) (a : Addr) (ds : List D), d = .cel a ∧ M[k]? = some (a, .lst ds) ∧ okDs ds = true ∧ q = .list (pys ds)
theorem PV.fz {M : Cells} {d : D} (h : okD d = true) : PV M d (py d) := .inl ⟨h, rfl⟩
theorem PV.cl {M : Cells} {a : Addr} {ds : List D} (k : Nat) (h : M[k]? = some (a, .lst ds)) (g : okDs ds = true) : PV M (.cel a) (.list (pys ds)) := .inr ⟨k, a, ds, rfl, h, g, rfl⟩
theorem Stt.readP {K : PySem.W.Frag} (S : Stt K F M δ σ H) {v : V} {d : D} {q : PyData} (r : Rep K F v d) (h : PV M d q) : Dp K H v q := by
  rcases h with ⟨h, rfl⟩ | ⟨k, a, ds, rfl, h1, h2, rfl⟩
  · exact Rep.dp S.le d v r h
  · cases r
    obtain ⟨vs, e1, e2, e3⟩ := S.cellAt (List.mem_of_getElem? h1)
    exact .lst (.of e1) (Reps.dp S.le ds vs e3 h2)
theorem lift_eqD : Lift2 X (rEqD X.K) (fun d e M Q => ∃ p q, PV M d p ∧ PV M e q ∧ SeqAt.shaped p = true ∧ SeqAt.shaped q = true ∧ Q (.bl (PyData.eqv p q)) M) := fun k s S r1 r2 h => by
  obtain ⟨p, q, h1, h2, s1, s2, z⟩ := h
  exact ⟨p, q, S.readP r1 h1, S.readP r2 h2, s1, s2, k _ _ (ret S s (.bl _) z)⟩
theorem lift_neD : Lift2 X (rNeD X.K) (fun d e M Q => ∃ p q, PV M d p ∧ PV M e q ∧ SeqAt.shaped p = true ∧ SeqAt.shaped q = true ∧ Q (.bl (!PyData.eqv p q)) M) := fun k s S r1 r2 h => by
  obtain ⟨p, q, h1, h2, s1, s2, z⟩ := h
  exact ⟨p, q, S.readP r1 h1, S.readP r2 h2, s1, s2, k _ _ (ret S s (.bl _) z)⟩
def dOf : V → D
  | .non => .non | .bl b => .bl b | .int i => .int i | .str x => .str x | v => .raw v
theorem scal_rep {K : PySem.W.Frag} {v : V} {d : D} (x : V) (r : Rep K F v d) (h : d = dOf x) : v = x := by
  subst h
  cases x <;> (cases r; rfl)
/-- == of scalars: both ints, both texts, both bools, one of them None -/
def RScal (neg : Bool) : RD2 := fun d e M Q => ∃ x y : V, d = dOf x ∧ e = dOf y ∧ scal x y = true ∧ Q (.bl (if neg then !decide (x = y) else decide (x = y))) M
theorem lift_eqS : Lift2 X rEq (RScal false) := fun k s S r1 r2 h => by
  obtain ⟨x, y, h1, h2, h3, q⟩ := h
  rw [scal_rep x r1 h1, scal_rep y r2 h2]
  exact ⟨h3, k _ _ (ret S s (.bl _) q)⟩
theorem lift_neS : Lift2 X rNe (RScal true) := fun k s S r1 r2 h => by
  obtain ⟨x, y, h1, h2, h3, q⟩ := h
  rw [scal_rep x r1 h1, scal_rep y r2 h2]
  exact ⟨h3, k _ _ (ret S s (.bl _) q)⟩
theorem we_eqI {Q : D → Cells → Prop} (h : WE X P a δ M fun d M1 => WE X P b δ M1 fun e M2 => ∃ i j, d = .int i ∧ e = .int j ∧ Q (.bl (decide (i = j))) M2) : WE X P (.Compare a [.Eq] [b] pos) δ M Q := we_cmp op_eq lift_eqS (nomark _) (h.imp fun d M1 q => q.imp fun e M2 ⟨i, j, h1, h2, q⟩ => ⟨.int i, .int j, h1, h2, rfl, by simpa using q⟩)
theorem we_neI {Q : D → Cells → Prop} (h : WE X P a δ M fun d M1 => WE X P b δ M1 fun e M2 => ∃ i j, d = .int i ∧ e = .int j ∧ Q (.bl (!decide (i = j))) M2) : WE X P (.Compare a [.NotEq] [b] pos) δ M Q := we_cmp op_ne lift_neS (nomark _) (h.imp fun d M1 q => q.imp fun e M2 ⟨i, j, h1, h2, q⟩ => ⟨.int i, .int j, h1, h2, rfl, by simpa using q⟩)
theorem wt_eqI {Q : Bool → Cells → Prop} (h : WE X P a δ M fun d M1 => WE X P b δ M1 fun e M2 => ∃ i j, d = .int i ∧ e = .int j ∧ Q (decide (i = j)) M2) : WT X P (.Compare a [.Eq] [b] pos) δ M Q := wt_cmp op_eq lift_eqS (nomark _) (h.imp fun d M1 q => q.imp fun e M2 ⟨i, j, h1, h2, q⟩ => ⟨.int i, .int j, h1, h2, rfl, _, rfl, by simpa using q⟩)
theorem wt_neI {Q : Bool → Cells → Prop} (h : WE X P a δ M fun d M1 => WE X P b δ M1 fun e M2 => ∃ i j, d = .int i ∧ e = .int j ∧ Q (!decide (i = j)) M2) : WT X P (.Compare a [.NotEq] [b] pos) δ M Q := wt_cmp op_ne lift_neS (nomark _) (h.imp fun d M1 q => q.imp fun e M2 ⟨i, j, h1, h2, q⟩ => ⟨.int i, .int j, h1, h2, rfl, _, rfl, by simpa using q⟩)
theorem we_eqB {Q : D → Cells → Prop} (h : WE X P a δ M fun d M1 => WE X P b δ M1 fun e M2 => ∃ i j, d = .bl i ∧ e = .bl j ∧ Q (.bl (decide (i = j))) M2) : WE X P (.Compare a [.Eq] [b] pos) δ M Q := we_cmp op_eq lift_eqS (nomark _) (h.imp fun d M1 q => q.imp fun e M2 ⟨i, j, h1, h2, q⟩ => ⟨.bl i, .bl j, h1, h2, rfl, by simpa using q⟩)
theorem wt_neB {Q : Bool → Cells → Prop} (h : WE X P a δ M fun d M1 => WE X P b δ M1 fun e M2 => ∃ i j, d = .bl i ∧ e = .bl j ∧ Q (!decide (i = j)) M2) : WT X P (.Compare a [.NotEq] [b] pos) δ M Q := wt_cmp op_ne lift_neS (nomark _) (h.imp fun d M1 q => q.imp fun e M2 ⟨i, j, h1, h2, q⟩ => ⟨.bl i, .bl j, h1, h2, rfl, _, rfl, by simpa using q⟩)
theorem we_eqSt {Q : D → Cells → Prop} (h : WE X P a δ M fun d M1 => WE X P b δ M1 fun e M2 => ∃ i j, d = .str i ∧ e = .str j ∧ Q (.bl (decide (i = j))) M2) : WE X P (.Compare a [.Eq] [b] pos) δ M Q := we_cmp op_eq lift_eqS (nomark _) (h.imp fun d M1 q => q.imp fun e M2 ⟨i, j, h1, h2, q⟩ => ⟨.str i, .str j, h1, h2, rfl, by simpa using q⟩)
theorem wt_eqSt {Q : Bool → Cells → Prop} (h : WE X P a δ M fun d M1 => WE X P b δ M1 fun e M2 => ∃ i j, d = .str i ∧ e = .str j ∧ Q (decide (i = j)) M2) : WT X P (.Compare a [.Eq] [b] pos) δ M Q := wt_cmp op_eq lift_eqS (nomark _) (h.imp fun d M1 q => q.imp fun e M2 ⟨i, j, h1, h2, q⟩ => ⟨.str i, .str j, h1, h2, rfl, _, rfl, by simpa using q⟩)
theorem wt_neSt {Q : Bool → Cells → Prop} (h : WE X P a δ M fun d M1 => WE X P b δ M1 fun e M2 => ∃ i j, d = .str i ∧ e = .str j ∧ Q (!decide (i = j)) M2) : WT X P (.Compare a [.NotEq] [b] pos) δ M Q := wt_cmp op_ne lift_neS (nomark _) (h.imp fun d M1 q => q.imp fun e M2 ⟨i, j, h1, h2, q⟩ => ⟨.str i, .str j, h1, h2, rfl, _, rfl, by simpa using q⟩)
theorem we_eqD {Q : D → Cells → Prop} (hu : X.A.units + 64 < cLine) (h : WE X P a δ M fun d M1 => WE X P b δ M1 fun e M2 => ∃ p q, PV M2 d p ∧ PV M2 e q ∧ SeqAt.shaped p = true ∧ SeqAt.shaped q = true ∧ Q (.bl (PyData.eqv p q)) M2) : WE X P (.Compare a [.Eq] [b] pos) δ M Q := we_cmp (op_eqD hu) lift_eqD (nomark _) h
theorem we_neD {Q : D → Cells → Prop} (hu : X.A.units + 64 < cLine) (h : WE X P a δ M fun d M1 => WE X P b δ M1 fun e M2 => ∃ p q, PV M2 d p ∧ PV M2 e q ∧ SeqAt.shaped p = true ∧ SeqAt.shaped q = true ∧ Q (.bl (!PyData.eqv p q)) M2) : WE X P (.Compare a [.NotEq] [b] pos) δ M Q := we_cmp (op_neD hu) lift_neD (nomark _) h
theorem wt_eqD {Q : Bool → Cells → Prop} (hu : X.A.units + 64 < cLine) (h : WE X P a δ M fun d M1 => WE X P b δ M1 fun e M2 => ∃ p q, PV M2 d p ∧ PV M2 e q ∧ SeqAt.shaped p = true ∧ SeqAt.shaped q = true ∧ Q (PyData.eqv p q) M2) : WT X P (.Compare a [.Eq] [b] pos) δ M Q := wt_cmp (op_eqD hu) lift_eqD (nomark _) (h.imp fun d M1 q => q.imp fun e M2 ⟨i, j, h1, h2, h3, h4, q⟩ => ⟨i, j, h1, h2, h3, h4, _, rfl, q⟩)
theorem wt_neD {Q : Bool → Cells → Prop} (hu : X.A.units + 64 < cLine) (h : WE X P a δ M fun d M1 => WE X P b δ M1 fun e M2 => ∃ p q, PV M2 d p ∧ PV M2 e q ∧ SeqAt.shaped p = true ∧ SeqAt.shaped q = true ∧ Q (!PyData.eqv p q) M2) : WT X P (.Compare a [.NotEq] [b] pos) δ M Q := wt_cmp (op_neD hu) lift_neD (nomark _) (h.imp fun d M1 q => q.imp fun e M2 ⟨i, j, h1, h2, h3, h4, q⟩ => ⟨i, j, h1, h2, h3, h4, _, rfl, q⟩)
/-- is None, is not None -/
def isNonD : D → Bool | .non => true | _ => false
theorem lift_isN : Lift2 X (fun x y H Q => y = .non ∧ Q (.bl (decide (x = .non))) H) (fun d e M Q => e = .non ∧ (∀ v, d ≠ .raw v) ∧ Q (.bl (isNonD d)) M) := fun k s S r1 r2 h => by
  obtain ⟨rfl, hr, q⟩ := h
  cases r2
  refine ⟨rfl, k _ _ ?_⟩
  cases r1 <;> first
    | exact ret S s (.bl _) q
    | exact absurd rfl (hr _)
theorem lift_notN : Lift2 X (fun x y H Q => y = .non ∧ Q (.bl (!decide (x = .non))) H) (fun d e M Q => e = .non ∧ (∀ v, d ≠ .raw v) ∧ Q (.bl (!isNonD d)) M) := fun k s S r1 r2 h => by
  obtain ⟨rfl, hr, q⟩ := h
  cases r2
  refine ⟨rfl, k _ _ ?_⟩
  cases r1 <;> first
    | exact ret S s (.bl _) q
    | exact absurd rfl (hr _)
theorem we_isN {j pos'} {Q : D → Cells → Prop} (h : WE X P a δ M fun d M1 => (∀ v, d ≠ .raw v) ∧ Q (.bl (isNonD d)) M1) : WE X P (.Compare a [.Is] [.Constant .none j pos'] pos) δ M Q := we_cmp op_isN lift_isN (nomark _) (h.imp fun d M1 q => we_non ⟨rfl, q⟩)
theorem we_notN {j pos'} {Q : D → Cells → Prop} (h : WE X P a δ M fun d M1 => (∀ v, d ≠ .raw v) ∧ Q (.bl (!isNonD d)) M1) : WE X P (.Compare a [.IsNot] [.Constant .none j pos'] pos) δ M Q := we_cmp op_notN lift_notN (nomark _) (h.imp fun d M1 q => we_non ⟨rfl, q⟩)
theorem wt_isN {j pos'} {Q : Bool → Cells → Prop} (h : WE X P a δ M fun d M1 => (∀ v, d ≠ .raw v) ∧ Q (isNonD d) M1) : WT X P (.Compare a [.Is] [.Constant .none j pos'] pos) δ M Q := wt_cmp op_isN lift_isN (nomark _) (h.imp fun d M1 q => we_non ⟨rfl, q.1, _, rfl, q.2⟩)
theorem wt_notN {j pos'} {Q : Bool → Cells → Prop} (h : WE X P a δ M fun d M1 => (∀ v, d ≠ .raw v) ∧ Q (!isNonD d) M1) : WT X P (.Compare a [.IsNot] [.Constant .none j pos'] pos) δ M Q := wt_cmp op_notN lift_notN (nomark _) (h.imp fun d M1 q => we_non ⟨rfl, q.1, _, rfl, q.2⟩)

theorem reps_at {K : PySem.W.Frag} {vs : List V} {ds : List D} {i : Int} {d : D} (r : Reps K F vs ds) (h : atI ds i = some d) : ∃ v, atI vs i = some v ∧ Rep K F v d := by
  unfold atI at h ⊢
  rw [r.length]
  cases e : ixN ds.length i with
  | none => rw [e] at h; cases h
  | some j =>
    rw [e] at h
    exact r.get h
theorem lift_ixL : Lift2 X (rIxL X.K) (fun d e M Q => ∃ ds i z, LV M d ds ∧ e = .int i ∧ atI ds i = some z ∧ Q z M) := fun k s S r1 r2 h => by
  obtain ⟨ds, i, z, h1, rfl, h2, q⟩ := h
  cases r2
  obtain ⟨l, xs, rfl, q1, z1⟩ := S.readL r1 h1
  obtain ⟨v, e1, e2⟩ := reps_at z1 h2
  exact ⟨l, xs, i, v, rfl, rfl, q1, e1, k _ _ (ret S s e2 q)⟩
theorem lift_ixT : Lift2 X (rIxT X.K) (fun d e M Q => ∃ ds i z, d = .tup ds ∧ e = .int i ∧ atI ds i = some z ∧ Q z M) := fun k s S r1 r2 h => by
  obtain ⟨ds, i, z, rfl, rfl, h2, q⟩ := h
  cases r2
  obtain ⟨l, xs, rfl, q1, z1⟩ := S.readT r1
  obtain ⟨v, e1, e2⟩ := reps_at z1 h2
  exact ⟨l, xs, i, v, rfl, rfl, q1, e1, k _ _ (ret S s e2 q)⟩
theorem lift_ixS : Lift2 X rIxS (fun d e M Q => ∃ z i c, d = .str z ∧ e = .int i ∧ z.length ≤ sizeLine ∧ atI z.cps.toList i = some c ∧ Q (.str ⟨#[c]⟩) M) := fun k s S r1 r2 h => by
  obtain ⟨z, i, c, rfl, rfl, h1, h2, q⟩ := h
  cases r1; cases r2
  exact ⟨z, i, c, rfl, rfl, h1, h2, k _ _ (ret S s (.str _) q)⟩
theorem we_ixL {Q : D → Cells → Prop} (h : WE X P a δ M fun d M1 => WE X P b δ M1 fun e M2 => ∃ ds i z, LV M2 d ds ∧ e = .int i ∧ atI ds i = some z ∧ Q z M2) (hs : PlainIx b) : WE X P (.Subscript a b pos) δ M Q := we_of (pe_ix ix_list pe_sem pe_sem hs) fun σ H F G => bind2 (fun _ _ z => z) lift_ixL h G
theorem we_ixT {Q : D → Cells → Prop} (h : WE X P a δ M fun d M1 => WE X P b δ M1 fun e M2 => ∃ ds i z, d = .tup ds ∧ e = .int i ∧ atI ds i = some z ∧ Q z M2) (hs : PlainIx b) : WE X P (.Subscript a b pos) δ M Q := we_of (pe_ix ix_tup pe_sem pe_sem hs) fun σ H F G => bind2 (fun _ _ z => z) lift_ixT h G
theorem we_ixS {Q : D → Cells → Prop} (h : WE X P a δ M fun d M1 => WE X P b δ M1 fun e M2 => ∃ z i c, d = .str z ∧ e = .int i ∧ z.length ≤ sizeLine ∧ atI z.cps.toList i = some c ∧ Q (.str ⟨#[c]⟩) M2) (hs : PlainIx b) : WE X P (.Subscript a b pos) δ M Q := we_of (pe_ix ix_str pe_sem pe_sem hs) fun σ H F G => bind2 (fun _ _ z => z) lift_ixS h G
def cutD (xs : List D) (lo hi : Option Int) : List D := (xs.drop (HT.sIx xs.length 0 lo)).take (HT.sIx xs.length xs.length hi - HT.sIx xs.length 0 lo)
theorem reps_cut {K : PySem.W.Frag} {vs : List V} {ds : List D} (r : Reps K F vs ds) (lo hi : Option Int) : Reps K F (cutV vs lo hi) (cutD ds lo hi) := by
  unfold cutV cutD
  rw [r.length]
  exact (r.drop _).take _
def tO (X : Cx) (e : Option Expr) : L2.TO := fun σ H Q => ∀ pins s, Inv X pins σ H s → wpAny (model X.prog X.w) X.A (evalPart e X.env) (fun u s' => ∃ o H', Inv X pins σ H' s' ∧ IsPart u o ∧ Q o H') X.xe s
theorem po_sem {X : Cx} {e : Option Expr} : PO X e (tO X e) := ⟨fun pins s _ _ _ I h => h pins s I⟩
def upO (K : PySem.W.Frag) (F : Hp) (δ : Slots) (σ : L2.St) (Q : Option Int → Cells → Prop) : Option Int → Hp → Prop := fun b H' => ∃ F' M', Same F F' ∧ Stt K F' M' δ σ H' ∧ Q b M'
def WO (X : Cx) (P : XP) (e : Option Expr) (δ : Slots) (M : Cells) (Q : Option Int → Cells → Prop) : Prop := ∀ σ H F, Go X P F M δ σ H → tO X e σ H (upO X.K F δ σ Q)
theorem wo_none {Q : Option Int → Cells → Prop} (h : Q none M) : WO X P none δ M Q := fun σ H F G pins s I => po_none.run pins s σ H _ I ⟨F, M, Same.refl _, G.st, h⟩
theorem wo_some {Q : Option Int → Cells → Prop} (h : WE X P e δ M fun d M1 => ∃ i, d = .int i ∧ Q (some i) M1) : WO X P (some e) δ M Q := fun σ H F G pins s I => (po_some pe_sem).run pins s σ H _ I (h.go G fun v H1 F1 M1 d s1 G1 r1 q1 => by
  obtain ⟨i, rfl, q⟩ := q1
  cases r1
  exact ⟨i, rfl, F1, M1, s1, G1.st, q⟩)
theorem tO.mono {e : Option Expr} {Q Q' : Option Int → Hp → Prop} (h : tO X e σ H Q) (k : ∀ v H', Q v H' → Q' v H') : tO X e σ H Q' := fun pins s I => thn (h pins s I) fun _ _ ⟨o, H', I', p, q⟩ => ⟨o, H', I', p, k _ _ q⟩
theorem we_slice {lo hi : Option Expr} {Q : D → Cells → Prop} (h : WE X P e δ M fun d M1 => WO X P lo δ M1 fun l M2 => WO X P hi δ M2 fun u M3 => ∃ ds, LV M3 d ds ∧ Q (.lst (cutD ds l u)) M3) : WE X P (.Subscript e (.Slice lo hi none p2) pos) δ M Q :=
  we_of (pe_slice sl_list pe_sem po_sem po_sem) fun σ H F G => h.go G fun v H1 F1 M1 d s1 G1 r1 q1 => (q1 σ H1 F1 G1).mono fun l H2 ⟨F2, M2, s2, S2, q2⟩ => (q2 σ H2 F2 ⟨S2, G1.tk.up s2⟩).mono fun u H3 ⟨F3, M3, s3, S3, ds, h1, q3⟩ => by
    obtain ⟨a, xs, rfl, e1, e2⟩ := S3.readL (r1.up (s2.trans s3)) h1
    refine ⟨a, xs, rfl, e1, fun p hp => ?_⟩
    obtain ⟨S', s'⟩ := S3.froz (o := .lst (cutV xs l u)) hp
    exact ret S' (((s1.trans s2).trans s3).trans s') (.lst (.of upd_same) ((reps_cut e2 l u).up s')) q3
theorem we_sliceC {lo hi : Option Expr} {Q : D → Cells → Prop} (h : WE X P e δ M fun d M1 => WO X P lo δ M1 fun l M2 => WO X P hi δ M2 fun u M3 => ∃ ds, LV M3 d ds ∧ ∀ p, Q (.cel p) ((p, .lst (cutD ds l u)) :: M3)) : WE X P (.Subscript e (.Slice lo hi none p2) pos) δ M Q :=
  we_of (pe_slice sl_list pe_sem po_sem po_sem) fun σ H F G => h.go G fun v H1 F1 M1 d s1 G1 r1 q1 => (q1 σ H1 F1 G1).mono fun l H2 ⟨F2, M2, s2, S2, q2⟩ => (q2 σ H2 F2 ⟨S2, G1.tk.up s2⟩).mono fun u H3 ⟨F3, M3, s3, S3, ds, h1, q3⟩ => by
    obtain ⟨a, xs, rfl, e1, e2⟩ := S3.readL (r1.up (s2.trans s3)) h1
    exact ⟨a, xs, rfl, e1, fun p hp => ret (S3.newL hp (reps_cut e2 l u)) ((s1.trans s2).trans s3) (.cel p) (q3 p)⟩
theorem lift_catC : Lift2 X (rCatQ X.K) (fun d e M Q => ∃ ds es, LV M d ds ∧ LV M e es ∧ ds.length + es.length ≤ sizeLine ∧ ∀ p, Q (.cel p) ((p, .lst (ds ++ es)) :: M)) := fun k s S r1 r2 h => by
  obtain ⟨ds, es, h1, h2, hl, q⟩ := h
  obtain ⟨l, xs, rfl, q1, z1⟩ := S.readL r1 h1
  obtain ⟨l2, ys, rfl, q2, z2⟩ := S.readL r2 h2
  exact ⟨l, l2, xs, ys, rfl, rfl, q1, q2, by rw [z1.length, z2.length]; exact hl, fun p hp => k _ _ (ret (S.newL hp (z1.append z2)) s (.cel p) (q p))⟩
theorem we_addC {Q : D → Cells → Prop} (h : WE X P a δ M fun d M1 => WE X P b δ M1 fun e M2 => ∃ ds es, LV M2 d ds ∧ LV M2 e es ∧ ds.length + es.length ≤ sizeLine ∧ ∀ p, Q (.cel p) ((p, .lst (ds ++ es)) :: M2)) : WE X P (.BinOp a .Add b pos) δ M Q := we_op op_catQ lift_catC h
theorem we_callB {x : Str} {id : String} {r : List V → Hp → VK → Prop} {R : RDA} {Q : D → Cells → Prop} (hc : CallR X (.builtin id) r) (L : LiftA X r R) (hg : Gl X x) (hm : X.mg x = none) (hv : bootBuiltins x = some (.builtin id)) (h : WA X P (e :: es) δ M fun ds M1 => R ds M1 Q) (hn : x ≠ "__name__" := by decide) (hdb : (x == ("__debug__" : Str)) = false := by decide)
    (he : starEach (e :: es) X.env = (false, eval e X.env) :: starEach es X.env := by rfl) (hpl : (backTo pos (starEach es X.env)).any (·.1) = false := by rfl) : WE X P (.Call (.Name x p) (e :: es) [] pos) δ M Q :=
  we_of (pe_callB hc hg hm hv pa_sem hn hdb he hpl) fun σ H F G => h.go G fun vs H1 F1 M1 ds s1 G1 r1 q1 => L (fun _ _ z => z) s1 G1.st r1 q1
theorem we_callTy {x : Str} {T : String} {r : List V → Hp → VK → Prop} {R : RDA} {Q : D → Cells → Prop} (hc : CallR X (.type T) r) (L : LiftA X r R) (hg : Gl X x) (hm : X.mg x = none) (hv : bootBuiltins x = some (.type T)) (h : WA X P (e :: es) δ M fun ds M1 => R ds M1 Q) (hn : x ≠ "__name__" := by decide) (hdb : (x == ("__debug__" : Str)) = false := by decide)
    (he : starEach (e :: es) X.env = (false, eval e X.env) :: starEach es X.env := by rfl) (hpl : (backTo pos (starEach es X.env)).any (·.1) = false := by rfl) : WE X P (.Call (.Name x p) (e :: es) [] pos) δ M Q :=
  we_of (pe_callTy hc hg hm hv pa_sem hn hdb he hpl) fun σ H F G => h.go G fun vs H1 F1 M1 ds s1 G1 r1 q1 => L (fun _ _ z => z) s1 G1.st r1 q1
theorem Reps.one {K : PySem.W.Frag} {vs : List V} {d : D} (h : Reps K F vs [d]) : ∃ v, vs = [v] ∧ Rep K F v d := by
  cases h with | cons a b => cases b; exact ⟨_, rfl, a⟩
theorem Reps.two {K : PySem.W.Frag} {vs : List V} {d e : D} (h : Reps K F vs [d, e]) : ∃ v w, vs = [v, w] ∧ Rep K F v d ∧ Rep K F w e := by
  cases h with | cons a b => cases b with | cons b c => cases c; exact ⟨_, _, rfl, a, b⟩
def RLen : RDA := fun ds M Q => (∃ d xs, ds = [d] ∧ LV M d xs ∧ Q (.int xs.length) M) ∨ (∃ xs, ds = [.tup xs] ∧ Q (.int xs.length) M) ∨ (∃ z, ds = [.str z] ∧ z.length ≤ sizeLine ∧ Q (.int z.length) M)
theorem lift_len : LiftA X (fun xs H Q => ∃ x n, xs = [x] ∧ LenV X.K x H n ∧ Q (.int n) H) RLen := fun k s S r h => by
  rcases h with ⟨d, xs, rfl, hl, q⟩ | ⟨xs, rfl, q⟩ | ⟨z, rfl, hl, q⟩
  · obtain ⟨v, rfl, r1⟩ := r.one
    obtain ⟨a, vs, rfl, e1, e2⟩ := S.readL r1 hl
    exact ⟨_, vs.length, rfl, .inl ⟨vs, e1, rfl⟩, k _ _ (ret S s (by rw [e2.length]; exact .int _) q)⟩
  · obtain ⟨v, rfl, r1⟩ := r.one
    obtain ⟨a, vs, rfl, e1, e2⟩ := S.readT r1
    exact ⟨_, vs.length, rfl, .inr ⟨vs, e1, rfl⟩, k _ _ (ret S s (by rw [e2.length]; exact .int _) q)⟩
  · obtain ⟨v, rfl, r1⟩ := r.one
    cases r1
    exact ⟨_, z.length, rfl, ⟨hl, rfl⟩, k _ _ (ret S s (.int _) q)⟩
theorem we_len {Q : D → Cells → Prop} (hg : Gl X "len") (hm : X.mg "len" = none) (h : WA X P [e] δ M fun ds M1 => RLen ds M1 Q) (he : starEach [e] X.env = (false, eval e X.env) :: starEach [] X.env := by rfl) (hpl : (backTo pos (starEach [] X.env)).any (·.1) = false := by rfl) : WE X P (.Call (.Name "len" p) [e] [] pos) δ M Q :=
  we_callB call_len lift_len hg hm (by decide +kernel) h (by decide) (by decide) he hpl
theorem we_abs {Q : D → Cells → Prop} (hg : Gl X "abs") (hm : X.mg "abs" = none) (h : WA X P [e] δ M fun ds M1 => ∃ i, ds = [.int i] ∧ Q (.int (if i < 0 then -i else i)) M1) (he : starEach [e] X.env = (false, eval e X.env) :: starEach [] X.env := by rfl) (hpl : (backTo pos (starEach [] X.env)).any (·.1) = false := by rfl) : WE X P (.Call (.Name "abs" p) [e] [] pos) δ M Q :=
  we_callB (R := fun ds M1 Q => ∃ i, ds = [.int i] ∧ Q (.int (if i < 0 then -i else i)) M1) call_abs (fun k s S r h => by
    obtain ⟨i, rfl, q⟩ := h
    obtain ⟨v, rfl, r1⟩ := r.one
    cases r1
    exact ⟨i, rfl, k _ _ (ret S s (.int _) q)⟩) hg hm (by decide +kernel) h (by decide) (by decide) he hpl
theorem we_int1 {Q : D → Cells → Prop} (hg : Gl X "int") (hm : X.mg "int" = none) (h : WA X P [e] δ M fun ds M1 => (∃ i, ds = [.int i] ∧ Q (.int i) M1) ∨ ∃ k, ds = [.bl k] ∧ Q (.int (if k then 1 else 0)) M1) (he : starEach [e] X.env = (false, eval e X.env) :: starEach [] X.env := by rfl) (hpl : (backTo pos (starEach [] X.env)).any (·.1) = false := by rfl) : WE X P (.Call (.Name "int" p) [e] [] pos) δ M Q :=
  we_callTy (R := fun ds M1 Q => (∃ i, ds = [.int i] ∧ Q (.int i) M1) ∨ ∃ k, ds = [.bl k] ∧ Q (.int (if k then 1 else 0)) M1) call_int1 (fun k s S r h => by
    rcases h with ⟨i, rfl, q⟩ | ⟨i, rfl, q⟩
    · obtain ⟨v, rfl, r1⟩ := r.one
      cases r1
      exact .inl ⟨i, rfl, k _ _ (ret S s (.int _) q)⟩
    · obtain ⟨v, rfl, r1⟩ := r.one
      cases r1
      exact .inr ⟨i, rfl, k _ _ (ret S s (.int _) q)⟩) hg hm (by decide +kernel) h (by decide) (by decide) he hpl
theorem we_max2 {Q : D → Cells → Prop} (hc : X.calm = true) (hg : Gl X "max") (hm : X.mg "max" = none) (h : WA X P [a, b] δ M fun ds M1 => ∃ i j, ds = [.int i, .int j] ∧ Q (.int (if j > i then j else i)) M1) (he : starEach [a, b] X.env = (false, eval a X.env) :: starEach [b] X.env := by rfl) (hpl : (backTo pos (starEach [b] X.env)).any (·.1) = false := by rfl) : WE X P (.Call (.Name "max" p) [a, b] [] pos) δ M Q :=
  we_callB (R := fun ds M1 Q => ∃ i j, ds = [.int i, .int j] ∧ Q (.int (if j > i then j else i)) M1) (call_max2 hc) (fun k s S r h => by
    obtain ⟨i, j, rfl, q⟩ := h
    obtain ⟨v, w, rfl, r1, r2⟩ := r.two
    cases r1; cases r2
    exact ⟨i, j, rfl, k _ _ (ret S s (.int _) q)⟩) hg hm (by decide +kernel) h (by decide) (by decide) he hpl
theorem we_min2 {Q : D → Cells → Prop} (hc : X.calm = true) (hg : Gl X "min") (hm : X.mg "min" = none) (h : WA X P [a, b] δ M fun ds M1 => ∃ i j, ds = [.int i, .int j] ∧ Q (.int (if j < i then j else i)) M1) (he : starEach [a, b] X.env = (false, eval a X.env) :: starEach [b] X.env := by rfl) (hpl : (backTo pos (starEach [b] X.env)).any (·.1) = false := by rfl) : WE X P (.Call (.Name "min" p) [a, b] [] pos) δ M Q :=
  we_callB (R := fun ds M1 Q => ∃ i j, ds = [.int i, .int j] ∧ Q (.int (if j < i then j else i)) M1) (call_min2 hc) (fun k s S r h => by
    obtain ⟨i, j, rfl, q⟩ := h
    obtain ⟨v, w, rfl, r1, r2⟩ := r.two
    cases r1; cases r2
    exact ⟨i, j, rfl, k _ _ (ret S s (.int _) q)⟩) hg hm (by decide +kernel) h (by decide) (by decide) he hpl
theorem we_all {Q : D → Cells → Prop} (hc : X.calm = true) (hg : Gl X "all") (hm : X.mg "all" = none) (h : WA X P [a] δ M fun ds M1 => ∃ (d : D) (bs : List Bool), ds = [d] ∧ LV M1 d (bs.map D.bl) ∧ Q (.bl (bs.all id)) M1) (he : starEach [a] X.env = (false, eval a X.env) :: starEach [] X.env := by rfl) (hpl : (backTo pos (starEach [] X.env)).any (·.1) = false := by rfl) : WE X P (.Call (.Name "all" p) [a] [] pos) δ M Q :=
  we_callB (R := fun ds M1 Q => ∃ (d : D) (bs : List Bool), ds = [d] ∧ LV M1 d (bs.map D.bl) ∧ Q (.bl (bs.all id)) M1) (cr_all hc) (fun k s S r h => by
    obtain ⟨d, bs, rfl, hl, q⟩ := h
    obtain ⟨v, rfl, r1⟩ := r.one
    obtain ⟨a, vs, rfl, e1, e2⟩ := S.readL r1 hl
    rw [e2.bls_inv] at e1
    exact ⟨a, bs, rfl, e1, k _ _ (ret S s (.bl _) q)⟩) hg hm (by decide +kernel) h (by decide) (by decide) he hpl
theorem we_any {Q : D → Cells → Prop} (hc : X.calm = true) (hg : Gl X "any") (hm : X.mg "any" = none) (h : WA X P [a] δ M fun ds M1 => ∃ (d : D) (bs : List Bool), ds = [d] ∧ LV M1 d (bs.map D.bl) ∧ Q (.bl (bs.any id)) M1) (he : starEach [a] X.env = (false, eval a X.env) :: starEach [] X.env := by rfl) (hpl : (backTo pos (starEach [] X.env)).any (·.1) = false := by rfl) : WE X P (.Call (.Name "any" p) [a] [] pos) δ M Q :=
  we_callB (R := fun ds M1 Q => ∃ (d : D) (bs : List Bool), ds = [d] ∧ LV M1 d (bs.map D.bl) ∧ Q (.bl (bs.any id)) M1) (cr_any hc) (fun k s S r h => by
    obtain ⟨d, bs, rfl, hl, q⟩ := h
    obtain ⟨v, rfl, r1⟩ := r.one
    obtain ⟨a, vs, rfl, e1, e2⟩ := S.readL r1 hl
    rw [e2.bls_inv] at e1
    exact ⟨a, bs, rfl, e1, k _ _ (ret S s (.bl _) q)⟩) hg hm (by decide +kernel) h (by decide) (by decide) he hpl
theorem we_sum {Q : D → Cells → Prop} (hc : X.calm = true) (hg : Gl X "sum") (hm : X.mg "sum" = none) (h : WA X P [a] δ M fun ds M1 => ∃ (d : D) (ns : List Int), ds = [d] ∧ LV M1 d (ns.map D.int) ∧ Q (.int ns.sum) M1) (he : starEach [a] X.env = (false, eval a X.env) :: starEach [] X.env := by rfl) (hpl : (backTo pos (starEach [] X.env)).any (·.1) = false := by rfl) : WE X P (.Call (.Name "sum" p) [a] [] pos) δ M Q :=
  we_callB (R := fun ds M1 Q => ∃ (d : D) (ns : List Int), ds = [d] ∧ LV M1 d (ns.map D.int) ∧ Q (.int ns.sum) M1) (cr_sum hc) (fun k s S r h => by
    obtain ⟨d, bs, rfl, hl, q⟩ := h
    obtain ⟨v, rfl, r1⟩ := r.one
    obtain ⟨a, vs, rfl, e1, e2⟩ := S.readL r1 hl
    rw [e2.ints_inv] at e1
    exact ⟨a, bs, rfl, e1, k _ _ (ret S s (.int _) q)⟩) hg hm (by decide +kernel) h (by decide) (by decide) he hpl
theorem Stt.readLT {K : PySem.W.Frag} (S : Stt K F M δ σ H) {v : V} {d : D} {xs : List D} (r : Rep K F v d) (h : LV M d xs ∨ d = .tup xs) : ∃ a vs, v = .ref a ∧ (SqL K H a vs ∨ SqT K H a vs) ∧ Reps K F vs xs := by
  rcases h with hl | rfl
  · obtain ⟨a, vs, rfl, e1, e2⟩ := S.readL r hl; exact ⟨a, vs, rfl, .inl e1, e2⟩
  · obtain ⟨a, vs, rfl, e1, e2⟩ := S.readT r; exact ⟨a, vs, rfl, .inr e1, e2⟩
/-- list(xs), frozen -/
theorem we_list {Q : D → Cells → Prop} (hg : Gl X "list") (hm : X.mg "list" = none) (h : WA X P [a] δ M fun ds M1 => ∃ d xs, ds = [d] ∧ (LV M1 d xs ∨ d = .tup xs) ∧ Q (.lst xs) M1) (he : starEach [a] X.env = (false, eval a X.env) :: starEach [] X.env := by rfl) (hpl : (backTo pos (starEach [] X.env)).any (·.1) = false := by rfl) : WE X P (.Call (.Name "list" p) [a] [] pos) δ M Q :=
  we_callTy (R := fun ds M1 Q => ∃ d xs, ds = [d] ∧ (LV M1 d xs ∨ d = .tup xs) ∧ Q (.lst xs) M1) call_list_of (fun k s S r h => by
    obtain ⟨d, xs, rfl, hl, q⟩ := h
    obtain ⟨v, rfl, r1⟩ := r.one
    obtain ⟨a, vs, rfl, e1, e2⟩ := S.readLT r1 hl
    refine ⟨a, vs, rfl, e1, fun l hl => k _ _ ?_⟩
    obtain ⟨S', s'⟩ := S.froz (o := .lst vs) hl
    exact ret S' (s.trans s') (.lst (.of upd_same) (e2.up s')) q) hg hm (by decide +kernel) h (by decide) (by decide) he hpl
theorem we_listC {Q : D → Cells → Prop} (hg : Gl X "list") (hm : X.mg "list" = none) (h : WA X P [a] δ M fun ds M1 => ∃ d xs, ds = [d] ∧ (LV M1 d xs ∨ d = .tup xs) ∧ ∀ p, Q (.cel p) ((p, .lst xs) :: M1)) (he : starEach [a] X.env = (false, eval a X.env) :: starEach [] X.env := by rfl) (hpl : (backTo pos (starEach [] X.env)).any (·.1) = false := by rfl) : WE X P (.Call (.Name "list" p) [a] [] pos) δ M Q :=
  we_callTy (R := fun ds M1 Q => ∃ d xs, ds = [d] ∧ (LV M1 d xs ∨ d = .tup xs) ∧ ∀ p, Q (.cel p) ((p, .lst xs) :: M1)) call_list_of (fun k s S r h => by
    obtain ⟨d, xs, rfl, hl, q⟩ := h
    obtain ⟨v, rfl, r1⟩ := r.one
    obtain ⟨a, vs, rfl, e1, e2⟩ := S.readLT r1 hl
    exact ⟨a, vs, rfl, e1, fun l hl => k _ _ (ret (S.newL hl e2) s (.cel l) (q l))⟩) hg hm (by decide +kernel) h (by decide) (by decide) he hpl
def isT (t n : String) : Bool := t == n || (t == "bool" && n == "int")
def TyA (M : Cells) (d : D) (t : String) : Prop := match d with
  | .non => t = "NoneType" | .bl _ => t = "bool" | .int _ => t = "int" | .str _ => t = "str" | .tup _ => t = "tuple" | .lst _ => t = "list" | .cel a => t = "list" ∧ ∃ (k : Nat) (ds : List D), M[k]? = some (a, .lst ds) | .raw _ => False
theorem kitT {K : PySem.W.Frag} {t n : String} (ht : t ∈ ["NoneType", "bool", "int", "str", "tuple", "list"]) (hn : n ∈ ["bool", "int", "str", "tuple", "list", "dict"]) : PySem.W.kitOne K (.type t) (.type n) = some (isT t n) := by
  simp only [List.mem_cons, List.not_mem_nil, or_false] at ht hn
  rcases ht with rfl | rfl | rfl | rfl | rfl | rfl <;> rcases hn with rfl | rfl | rfl | rfl | rfl | rfl <;> exact kit_ty (by decide +kernel)
theorem Stt.ty {K : PySem.W.Frag} (S : Stt K F M δ σ H) {v : V} {d : D} {t : String} (r : Rep K F v d) (h : TyA M d t) : TyX K H v (.type t) ∧ t ∈ ["NoneType", "bool", "int", "str", "tuple", "list"] := by
  cases d with
  | non => cases r; cases (show t = _ from h); exact ⟨.base .non, by simp⟩
  | bl b => cases r; cases (show t = _ from h); exact ⟨.base (.bl b), by simp⟩
  | int i => cases r; cases (show t = _ from h); exact ⟨.base (.int i), by simp⟩
  | str x => cases r; cases (show t = _ from h); exact ⟨.base (.str x), by simp⟩
  | tup ds =>
    cases (show t = _ from h)
    obtain ⟨a, vs, rfl, e1, e2⟩ := S.readT r
    refine ⟨?_, by simp⟩
    rcases e1 with (e1 | ⟨o, e1⟩) | ⟨o, its, n, e1, e3, _⟩
    · exact .base (.tup e1)
    · exact .fTuple e1
    · exact .kTuple e1 e3
  | lst ds =>
    cases (show t = _ from h)
    obtain ⟨a, vs, rfl, e1, e2⟩ := S.readL r LV.l
    refine ⟨?_, by simp⟩
    rcases e1 with (e1 | ⟨o, e1⟩) | ⟨o, its, n, e1, e3, _⟩
    · exact .base (.lst e1)
    · exact .base (.frz e1)
    · exact .kList e1 e3
  | cel a =>
    obtain ⟨rfl, k, ds, hk⟩ := (show t = "list" ∧ ∃ (k : Nat) (ds : List D), M[k]? = some (a, .lst ds) from h)
    obtain ⟨a, vs, rfl, e1, e2⟩ := S.readL r (LV.c k hk)
    refine ⟨?_, by simp⟩
    rcases e1 with (e1 | ⟨o, e1⟩) | ⟨o, its, n, e1, e3, _⟩
    · exact .base (.lst e1)
    · exact .base (.frz e1)
    · exact .kList e1 e3
  | raw v => exact (show False from h).elim
def rIsiTQ (K : PySem.W.Frag) : List V → Hp → VK → Prop := fun xs H Q => ∃ (x : V) (tp : Addr) (cs : List V) (t : Value) (us : List Value) (b : Bool), xs = [x, .ref tp] ∧ SqT K H tp cs ∧ Paired ClsV cs us ∧ TyX K H x t ∧ PySem.W.kitAny K t us = some b ∧ Q (.bl b) H
theorem call_isiTQ : CallR X (.builtin "isinstance") (rIsiTQ X.K) := by
  intro pins s σ H xs us Q I r h
  obtain ⟨x, tp, cs, t, ws, b, rfl, hT, k, ty, e, q⟩ := h
  obtain ⟨u1, u2, rfl, r1, r2⟩ := vals2 r
  cases (show u2 = Value.ref tp from r2)
  obtain ⟨P, Z, p, hx⟩ := kit_of I r1 ty
  obtain ⟨its, rv, ⟨o, h1, h2, n, h3⟩, _⟩ := I.tuple hT
  have e3 := ClsV.all k rv
  subst e3
  obtain ⟨oc, od, dt, sl⟩ := o
  simp only at h2 h3
  subst h2 h3
  exact PySem.W.kia_tup Z I.kIn p h1 e hx fun tk => ⟨.bl b, H, I.tok tk, rfl, q⟩
def RIsi : RDA := fun ds M Q => ∃ d t n, ds = [d, .raw (.ty n)] ∧ TyA M d t ∧ n ∈ ["bool", "int", "str", "tuple", "list", "dict"] ∧ Q (.bl (isT t n)) M
theorem lift_isi : LiftA X (rIsi X.K) RIsi := fun k s S r h => by
  obtain ⟨d, t, n, rfl, ht, hn, q⟩ := h
  obtain ⟨v, w, rfl, r1, r2⟩ := r.two
  cases r2
  obtain ⟨ty, hm⟩ := S.ty r1 ht
  exact ⟨v, .ty n, .type t, .type n, isT t n, rfl, .ty n, ty, kitT hm hn, k _ _ (ret S s (.bl _) q)⟩
def RIsiT : RDA := fun ds M Q => ∃ d t n m, ds = [d, .tup [.raw (.ty n), .raw (.ty m)]] ∧ TyA M d t ∧ n ∈ ["bool", "int", "str", "tuple", "list", "dict"] ∧ m ∈ ["bool", "int", "str", "tuple", "list", "dict"] ∧ Q (.bl (isT t n || isT t m)) M
theorem lift_isiT : LiftA X (rIsiTQ X.K) RIsiT := fun k s S r h => by
  obtain ⟨d, t, n, m, rfl, ht, hn, hm, q⟩ := h
  obtain ⟨v, w, rfl, r1, r2⟩ := r.two
  obtain ⟨a, vs, rfl, e1, e2⟩ := S.readT r2
  obtain ⟨y, z, rfl, q1, q2⟩ := e2.two
  cases q1; cases q2
  obtain ⟨ty, hmm⟩ := S.ty r1 ht
  refine ⟨v, a, [.ty n, .ty m], .type t, [.type n, .type m], isT t n || isT t m, rfl, e1, .cons (.ty n) (.cons (.ty m) .nil), ty, ?_, k _ _ (ret S s (.bl _) q)⟩
  refine kitAny_cons (kitT hmm hn) (fun e => ?_) (fun e => by rw [e]; rfl)
  rw [e, Bool.false_or]
  exact kitAny_cons (kitT hmm hm) (fun e => by rw [e]; exact kitAny_nil) (fun e => e)
theorem we_isi {Q : D → Cells → Prop} (hg : Gl X "isinstance") (hm : X.mg "isinstance" = none) (h : WA X P [a, b] δ M fun ds M1 => RIsi ds M1 Q ∨ RIsiT ds M1 Q) (he : starEach [a, b] X.env = (false, eval a X.env) :: starEach [b] X.env := by rfl) (hpl : (backTo pos (starEach [b] X.env)).any (·.1) = false := by rfl) : WE X P (.Call (.Name "isinstance" p) [a, b] [] pos) δ M Q :=
  we_callB (call_isi.or call_isiTQ) (lift_isi.or lift_isiT) hg hm (by decide +kernel) h (by decide) (by decide) he hpl
end
end PW
/-! PW4 -/
namespace PW
open PySem L2 PyProof.Rows

structure Nice (X : Cx) : Prop where
  calm : X.calm = true
  nd : X.N.Nodup
  own : PassesOwn (model X.prog X.w) X.A X.env X.xe

structure En where
  nx : Slots → Cells → Prop
  rt : D → Cells → Prop
  bk : Slots → Cells → Prop := fun _ _ => False
  ct : Slots → Cells → Prop := fun _ _ => False
def upN (K : PySem.W.Frag) (F : Hp) (Q : Slots → Cells → Prop) : L2.St → Hp → Prop := fun σ' H' => ∃ F' M' δ', Same F F' ∧ Stt K F' M' δ' σ' H' ∧ Q δ' M'
def upR (K : PySem.W.Frag) (F : Hp) (Q : D → Cells → Prop) : VK := fun v H' => ∃ F' M' δ' σ' d, Same F F' ∧ Stt K F' M' δ' σ' H' ∧ Rep K F' v d ∧ Q d M'
def upEn (K : PySem.W.Frag) (F : Hp) (E : En) : L2.Ends := ⟨upN K F E.nx, upR K F E.rt, upN K F E.bk, upN K F E.ct⟩
theorem upN.base {K : PySem.W.Frag} {F F' : Hp} (s : Same F F') {Q : Slots → Cells → Prop} {σ : L2.St} {H : Hp} (h : upN K F' Q σ H) : upN K F Q σ H := let ⟨F2, M2, d2, s2, r⟩ := h; ⟨F2, M2, d2, s.trans s2, r⟩
theorem upR.base {K : PySem.W.Frag} {F F' : Hp} (s : Same F F') {Q : D → Cells → Prop} {v : V} {H : Hp} (h : upR K F' Q v H) : upR K F Q v H := let ⟨F2, M2, d2, σ2, e2, s2, r⟩ := h; ⟨F2, M2, d2, σ2, e2, s.trans s2, r⟩
def tS (X : Cx) (st : Stmt) : TS := fun D σ H => ∀ pins s, Inv X pins σ H s → wpAny (model X.prog X.w) X.A (exec st X.env) (SP X pins D) X.xe s
def tB (X : Cx) (b : List Stmt) : TS := fun D σ H => ∀ pins s, Inv X pins σ H s → wpAny (model X.prog X.w) X.A (execs b X.env) (SP X pins D) X.xe s
def tG (X : Cx) (tg : Expr) : TG := fun v σ H Q => ∀ pins s u, Inv X pins σ H s → RelV v u → wpAny (model X.prog X.w) X.A (assign tg X.env u) (fun _ s' => ∃ σ' H', Inv X pins σ' H' s' ∧ Q σ' H') X.xe s
theorem ps_sem {X : Cx} {st : Stmt} : PS X st (tS X st) := ⟨fun pins s _ _ _ I h => h pins s I⟩
theorem pss_sem {X : Cx} {st : List Stmt} : PSs X st (tB X st) := ⟨fun pins s _ _ _ I h => h pins s I⟩
theorem pg_sem {X : Cx} {tg : Expr} : PG X tg (tG X tg) := ⟨fun pins s _ _ _ u _ I r h => h pins s u I r⟩
def WS (X : Cx) (P : XP) (st : Stmt) (δ : Slots) (M : Cells) (E : En) : Prop := ∀ σ H F, Go X P F M δ σ H → tS X st (upEn X.K F E) σ H
def WB (X : Cx) (P : XP) (b : List Stmt) (δ : Slots) (M : Cells) (E : En) : Prop := ∀ σ H F, Go X P F M δ σ H → tB X b (upEn X.K F E) σ H
def WG (X : Cx) (P : XP) (tg : Expr) (d : D) (δ : Slots) (M : Cells) (Q : Slots → Cells → Prop) : Prop := ∀ σ H F v, Go X P F M δ σ H → Rep X.K F v d → tG X tg v σ H (upN X.K F Q)
structure EnLe (D D' : L2.Ends) : Prop where
  nx : ∀ σ H, D.nx σ H → D'.nx σ H
  rt : ∀ v H, D.rt v H → D'.rt v H
  bk : ∀ σ H, D.bk σ H → D'.bk σ H
  ct : ∀ σ H, D.ct σ H → D'.ct σ H
theorem SP.mono {X : Cx} {pins : List (Addr × Obj)} {D D' : L2.Ends} (l : EnLe D D') {f : Flow} {s : Shared} (h : SP X pins D f s) : SP X pins D' f s := by
  cases f with
  | next => obtain ⟨σ', H', I, q⟩ := h; exact ⟨σ', H', I, l.nx _ _ q⟩
  | brk => obtain ⟨σ', H', I, q⟩ := h; exact ⟨σ', H', I, l.bk _ _ q⟩
  | cont => obtain ⟨σ', H', I, q⟩ := h; exact ⟨σ', H', I, l.ct _ _ q⟩
  | ret u => obtain ⟨v, σ', H', I, r, q⟩ := h; exact ⟨v, σ', H', I, r, l.rt _ _ q⟩
section
variable {X : Cx} {P : XP} {F : Hp} {M : Cells} {δ : Slots} {σ : L2.St} {H : Hp} {e a b c o : Expr} {es : List Expr} {pos apos p p2 : Pos} {st : Stmt} {rest body orelse : List Stmt} {E : En}
theorem tS.mono {D D' : L2.Ends} (h : tS X st D σ H) (l : EnLe D D') : tS X st D' σ H := fun pins s I => thn (h pins s I) fun _ _ q => SP.mono l q
theorem tB.mono {D D' : L2.Ends} (h : tB X body D σ H) (l : EnLe D D') : tB X body D' σ H := fun pins s I => thn (h pins s I) fun _ _ q => SP.mono l q
theorem tG.mono {tg : Expr} {v : V} {Q Q' : L2.St → Hp → Prop} (h : tG X tg v σ H Q) (k : ∀ σ H, Q σ H → Q' σ H) : tG X tg v σ H Q' := fun pins s u I r => thn (h pins s u I r) fun _ _ ⟨σ', H', I', q⟩ => ⟨σ', H', I', k _ _ q⟩
theorem enle_base {K : PySem.W.Frag} {F F' : Hp} (s : Same F F') (E : En) : EnLe (upEn K F' E) (upEn K F E) := ⟨fun _ _ h => upN.base s h, fun _ _ h => upR.base s h, fun _ _ h => upN.base s h, fun _ _ h => upN.base s h⟩
/-- go on behind a change of the frozen base -/
theorem WB.go {F' : Hp} {M' : Cells} {δ' : Slots} {σ' : L2.St} {H' : Hp} (h : WB X P body δ' M' E) (G : Go X P F' M' δ' σ' H') (s : Same F F') : tB X body (upEn X.K F E) σ' H' := (h σ' H' F' G).mono (enle_base s E)
theorem ws_of {t : TS} (p : PS X st t) (h : ∀ σ H F, Go X P F M δ σ H → t (upEn X.K F E) σ H) : WS X P st δ M E := fun σ H F G pins s I => p.run pins s σ H _ I (h σ H F G)
theorem nx_ {Q : Slots → Cells → Prop} {F0 : Hp} {K : PySem.W.Frag} (S : Stt K F M δ σ H) (s : Same F0 F) (q : Q δ M) : upN K F0 Q σ H := ⟨F, M, δ, s, S, q⟩

theorem wb_nil (h : E.nx δ M) : WB X P [] δ M E := fun σ H F G pins s I => pss_nil.run pins s σ H (upEn X.K F E) I (nx_ G.st (Same.refl _) h)
theorem wb_cons (h : WS X P st δ M { E with nx := fun δ' M' => WB X P rest δ' M' E }) : WB X P (st :: rest) δ M E := fun σ H F G pins s I =>
  (pss_cons ps_sem pss_sem).run pins s σ H (upEn X.K F E) I ((h σ H F G).mono ⟨fun σ' H' ⟨F', M', δ', s', S', q⟩ => q.go ⟨S', G.tk.up s'⟩ s', fun _ _ h => h, fun _ _ h => h, fun _ _ h => h⟩)
theorem wb_one (h : WS X P st δ M E) : WB X P [st] δ M E := fun σ H F G pins s I => (pss_one ps_sem).run pins s σ H (upEn X.K F E) I (h σ H F G)
theorem WB.imp {E' : En} (h : WB X P body δ M E) (h1 : ∀ δ M, E.nx δ M → E'.nx δ M) (h2 : ∀ d M, E.rt d M → E'.rt d M) (h3 : ∀ δ M, E.bk δ M → E'.bk δ M) (h4 : ∀ δ M, E.ct δ M → E'.ct δ M) : WB X P body δ M E' := fun σ H F G =>
  (h σ H F G).mono ⟨fun _ _ ⟨F', M', d', s, S, q⟩ => ⟨F', M', d', s, S, h1 _ _ q⟩, fun _ _ ⟨F', M', d', σ', x, s, S, r, q⟩ => ⟨F', M', d', σ', x, s, S, r, h2 _ _ q⟩, fun _ _ ⟨F', M', d', s, S, q⟩ => ⟨F', M', d', s, S, h3 _ _ q⟩, fun _ _ ⟨F', M', d', s, S, q⟩ => ⟨F', M', d', s, S, h4 _ _ q⟩⟩
theorem ws_pass (h : E.nx δ M) : WS X P (.Pass pos) δ M E := ws_of ps_pass fun σ H F G => nx_ G.st (Same.refl _) h
theorem ws_break (h : E.bk δ M) : WS X P (.Break pos) δ M E := ws_of ps_break fun σ H F G => nx_ (Q := E.bk) G.st (Same.refl _) h
theorem ws_continue (h : E.ct δ M) : WS X P (.Continue pos) δ M E := ws_of ps_continue fun σ H F G => nx_ (Q := E.ct) G.st (Same.refl _) h
theorem ws_expr (h : WE X P e δ M fun _ M' => E.nx δ M') (hs : swapsWith e none pos.line X.env = pure false := by rfl) : WS X P (.Expr e pos) δ M E := ws_of (ps_expr pe_sem hs) fun σ H F G => h.go G fun v H' F' M' d s G' r q => nx_ G'.st s q
theorem ws_ret (h : WE X P e δ M E.rt) : WS X P (.Return (some e) pos) δ M E := ws_of (ps_ret pe_sem) fun σ H F G => h.go G fun v H' F' M' d s G' r q => ⟨F', M', δ, σ, d, s, G'.st, r, q⟩
theorem ws_retN (h : E.rt .non M) : WS X P (.Return none pos) δ M E := ws_of ps_retN fun σ H F G => ⟨F, M, δ, σ, .non, Same.refl _, G.st, .non, h⟩
theorem ws_if (h : WT X P c δ M fun k M' => if k = true then WB X P body δ M' E else WB X P orelse δ M' E) : WS X P (.If c body orelse pos) δ M E :=
  ws_of (ps_if pt_sem pss_sem pss_sem) fun σ H F G => h.go G fun k H' F' M' s G' q => by
    cases k with
    | true => rw [if_pos rfl] at q ⊢; exact q.go G' s
    | false => rw [if_neg (by decide)] at q ⊢; exact q.go G' s
theorem ws_set {i : Nat} {x : Str} {pos' : Pos} (N : Nice X) (hi : X.N[i]? = some x) (hx : Loc X.env.scope x) (h : WE X P e δ M fun d M' => E.nx (δ.set i (some d)) M') (hs : swapsWith e (some (.Name x pos')) pos.line X.env = pure false := by rfl) (hf : X.fn x = true ∨ X.env.scope.names.lookup x = some .local := by first | exact .inl rfl | exact .inr rfl | assumption) : WS X P (.Assign [.Name x pos'] e pos) δ M E :=
  ws_of (ps_set N.nd hi hx pe_sem hs hf) fun σ H F G => h.go G fun v H' F' M' d s G' r q => nx_ (G'.st.setSlot r) s q
theorem wg_of {tg : Expr} {t : TG} {d : D} {Q : Slots → Cells → Prop} (p : PG X tg t) (h : ∀ σ H F v, Go X P F M δ σ H → Rep X.K F v d → t v σ H (upN X.K F Q)) : WG X P tg d δ M Q := fun σ H F v G r pins s u I ru => p.run pins s σ H v u _ I ru (h σ H F v G r)
theorem wg_name {i : Nat} {x : Str} {d : D} {Q : Slots → Cells → Prop} (N : Nice X) (hi : X.N[i]? = some x) (hx : Loc X.env.scope x) (h : Q (δ.set i (some d)) M) (hf : X.fn x = true ∨ X.env.scope.names.lookup x = some .local := by first | exact .inl rfl | exact .inr rfl | assumption) : WG X P (.Name x pos) d δ M Q :=
  wg_of (pg_name N.nd hi hx hf) fun σ H F v G r => nx_ (G.st.setSlot r) (Same.refl _) h
/-- targets one after another -/
def tGs (X : Cx) (ts : List Expr) : TGs := fun vs σ H Q => ∀ pins s us, Inv X pins σ H s → Vals vs us → wpAny (model X.prog X.w) X.A (assignInOrder ((assignEach ts X.env).map (·.2)) us) (fun _ s' => ∃ σ' H', Inv X pins σ' H' s' ∧ Q σ' H') X.xe s
theorem pgs_sem {ts : List Expr} : PGs X ts (tGs X ts) := ⟨fun pins s _ _ _ us _ I r h => h pins s us I r⟩
def WGs (X : Cx) (P : XP) (ts : List Expr) (ds : List D) (δ : Slots) (M : Cells) (Q : Slots → Cells → Prop) : Prop := ∀ σ H F vs, Go X P F M δ σ H → Reps X.K F vs ds → tGs X ts vs σ H (upN X.K F Q)
theorem wgs_nil {Q : Slots → Cells → Prop} (h : Q δ M) : WGs X P [] [] δ M Q := fun σ H F vs G r pins s us I ru => pgs_nil.run pins s σ H vs us _ I ru ⟨by cases r; rfl, nx_ G.st (Same.refl _) h⟩
theorem wgs_cons {t : Expr} {ts : List Expr} {d : D} {ds : List D} {Q : Slots → Cells → Prop} (h : WG X P t d δ M fun δ' M' => WGs X P ts ds δ' M' Q) (hs : (assignEach (t :: ts) X.env).map (·.2) = assign t X.env :: (assignEach ts X.env).map (·.2) := by rfl) : WGs X P (t :: ts) (d :: ds) δ M Q := fun σ H F vs G r pins s us I ru => by
  cases r with
  | cons r1 r2 =>
    refine (pgs_cons pg_sem pgs_sem hs).run pins s σ H _ us _ I ru ⟨_, _, rfl, (h σ H F _ G r1).mono fun σ' H' ⟨F', M', δ', s', S', q⟩ => ?_⟩
    exact fun pins s us I ru => thn (q σ' H' F' _ ⟨S', G.tk.up s'⟩ (r2.up s') pins s us I ru) fun _ _ ⟨σ2, H2, I2, q2⟩ => ⟨σ2, H2, I2, upN.base s' q2⟩
theorem wg_tup {ts : List Expr} {k : Nat} {d : D} {ds : List D} {Q : Slots → Cells → Prop} (N : Nice X) (hd : d = .tup ds) (h : WGs X P ts ds δ M Q) (hl : ds.length = (assignEach ts X.env).length := by rfl) (hst : (assignEach ts X.env).findIdx? (·.1) = none := by rfl) : WG X P (.Tuple ts k pos) d δ M Q := by
  subst hd
  refine wg_of (pg_tup N.calm pgs_sem (n := ds.length) hl.symm hst) fun σ H F v G r => ?_
  obtain ⟨a, vs, rfl, e1, e2⟩ := G.st.readT r
  exact ⟨a, vs, rfl, e1, e2.length, h σ H F vs G e2⟩
theorem wg_sub {d : D} {Q : Slots → Cells → Prop} (h : WE X P o δ M fun x M1 => WE X P a δ M1 fun y M2 => ∃ k q ds z j, x = .cel q ∧ M2[k]? = some (q, .lst ds) ∧ y = .int z ∧ ixN ds.length z = some j ∧ Q δ (M2.set k (q, .lst (ds.set j d))))
    (ha : ∀ v, assign (.Subscript o a pos) X.env v = (do
      let ov ← holding [v] (eval o X.env)
      let iv ← holding [v, ov] (eval a X.env)
      standAt pos
      holding [v, ov, iv] (setItem ov iv v)
      release [v, ov, iv] []) := by intro _; rfl) : WG X P (.Subscript o a pos) d δ M Q :=
  wg_of (pg_sub pe_sem pe_sem set_list ha) fun σ H F v G r => h.go G fun ov H1 F1 M1 x s1 G1 r1 q1 => q1.go G1 fun iv H2 F2 M2 y s2 G2 r2 q2 => by
    obtain ⟨k, q, ds, z, j, rfl, hk, rfl, hj, hq⟩ := q2
    cases r1; cases r2
    obtain ⟨vs, e1, e2, e3⟩ := G2.st.cellAt (List.mem_of_getElem? hk)
    refine ⟨q, vs, z, j, rfl, rfl, e1, by rw [e3.length]; exact hj, ?_⟩
    exact nx_ (G2.st.setCell (c' := .lst (ds.set j d)) hk ⟨vs.set j v, upd_same, e3.set j (r.up (s1.trans s2))⟩) (s1.trans s2) hq
theorem ws_asg {tg : Expr} (h : WE X P e δ M fun d M' => WG X P tg d δ M' E.nx) (hs : swapsWithSole [tg] e pos.line X.env = pure false := by rfl) (hw : swappedStores [tg] e X.env = pure none := by rfl)
    (h1 : (assignEach [tg] X.env).map (·.2) = [assign tg X.env] := by rfl) : WS X P (.Assign [tg] e pos) δ M E :=
  ws_of (ps_asg pe_sem pg_sem hs hw h1) fun σ H F G => h.go G fun v H' F' M' d s G' r q => (q σ H' F' v G' r).mono fun _ _ z => upN.base s z
/-- a, b = x, y of plain local names -/
theorem ws_par {i j : Nat} {x y : Str} {px py pt : Pos} {kt k2 pt2} (N : Nice X) (hi : X.N[i]? = some x) (hj : X.N[j]? = some y) (hij : i ≠ j) (hx : X.env.scope.names.lookup x = some .local) (hy : X.env.scope.names.lookup y = some .local)
    (hw : swappedStores [.Tuple [.Name x px, .Name y py] kt pt] (.Tuple [a, b] k2 pt2) X.env = pure (some [x, y])) (h : WA X P [a, b] δ M fun ds M' => ∃ d1 d2, ds = [d1, d2] ∧ E.nx ((δ.set i (some d1)).set j (some d2)) M')
    (hs : swapsWithSole [.Tuple [.Name x px, .Name y py] kt pt] (.Tuple [a, b] k2 pt2) pos.line X.env = pure false := by rfl) : WS X P (.Assign [.Tuple [.Name x px, .Name y py] kt pt] (.Tuple [a, b] k2 pt2) pos) δ M E :=
  ws_of (ps_par N.calm N.nd hi hj hij hx hy pa_sem hw hs) fun σ H F G => h.go G fun vs H' F' M' ds s G' r q => by
    obtain ⟨d1, d2, rfl, q⟩ := q
    obtain ⟨v, w, rfl, r1, r2⟩ := r.two
    exact ⟨v, w, rfl, nx_ ((G'.st.setSlot r1).setSlot r2) s q⟩
theorem ws_par3 {i j l : Nat} {x y z : Str} {px py pz pt : Pos} {kt k2 pt2} (N : Nice X) (hi : X.N[i]? = some x) (hj : X.N[j]? = some y) (hl : X.N[l]? = some z) (hij : i ≠ j) (hil : i ≠ l) (hjl : j ≠ l) (hx : X.env.scope.names.lookup x = some .local) (hy : X.env.scope.names.lookup y = some .local) (hz : X.env.scope.names.lookup z = some .local)
    (hw : swappedStores [.Tuple [.Name x px, .Name y py, .Name z pz] kt pt] (.Tuple [a, b, c] k2 pt2) X.env = pure (some [x, y, z])) (h : WA X P [a, b, c] δ M fun ds M' => ∃ d1 d2 d3, ds = [d1, d2, d3] ∧ E.nx (((δ.set i (some d1)).set j (some d2)).set l (some d3)) M')
    (hs : swapsWithSole [.Tuple [.Name x px, .Name y py, .Name z pz] kt pt] (.Tuple [a, b, c] k2 pt2) pos.line X.env = pure false := by rfl) : WS X P (.Assign [.Tuple [.Name x px, .Name y py, .Name z pz] kt pt] (.Tuple [a, b, c] k2 pt2) pos) δ M E :=
  ws_of (ps_par3 N.calm N.nd hi hj hl hij hil hjl hx hy hz pa_sem hw hs) fun σ H F G => h.go G fun vs H' F' M' ds s G' r q => by
    obtain ⟨d1, d2, d3, rfl, q⟩ := q
    cases r with
    | cons r1 r =>
      obtain ⟨v, w, rfl, r2, r3⟩ := r.two
      exact ⟨_, v, w, rfl, nx_ (((G'.st.setSlot r1).setSlot r2).setSlot r3) s q⟩
theorem ws_aug {i : Nat} {x : Str} {op : Operator} {ti : TIp} {R : RD2} {pos' : Pos} {d : D} (N : Nice X) (hi : X.N[i]? = some x) (hx : Loc X.env.scope x) (ho : PIp X op ti) (L : Lift2 X ti R) (hd : δ[i]? = some (some d)) (h : WE X P e δ M fun y M1 => R d y M1 fun z M2 => E.nx (δ.set i (some z)) M2)
    (hf : X.fn x = true ∨ X.env.scope.names.lookup x = some .local := by first | exact .inl rfl | exact .inr rfl | assumption) : WS X P (.AugAssign (.Name x pos') op e pos) δ M E :=
  ws_of (ps_aug N.nd hi hx pe_sem ho hf) fun σ H F G => by
    obtain ⟨v, e1, r⟩ := G.st.slot i d hd
    refine ⟨v, e1, h.go G fun u H1 F1 M1 y s1 G1 r1 q1 => L (Q := fun z M2 => E.nx (δ.set i (some z)) M2) (fun z H2 hz => ?_) s1 G1.st (r.up s1) r1 q1⟩
    obtain ⟨F2, M2, z', s2, S2, r2, q2⟩ := hz
    exact nx_ (S2.setSlot r2) s2 q2
theorem ws_augI {i : Nat} {x : Str} {op : Operator} {C : Int → Int → Prop} {g : Int → Int → Int} {pos' : Pos} {n : Int} (N : Nice X) (hi : X.N[i]? = some x) (hx : Loc X.env.scope x) (ho : OpR X (inplaceOp op) (rI C fun i j => .int (g i j))) (hd : δ[i]? = some (some (.int n))) (h : WE X P e δ M fun y M1 => ∃ j, y = .int j ∧ C n j ∧ E.nx (δ.set i (some (.int (g n j)))) M1)
    (hf : X.fn x = true ∨ X.env.scope.names.lookup x = some .local := by first | exact .inl rfl | exact .inr rfl | assumption) : WS X P (.AugAssign (.Name x pos') op e pos) δ M E :=
  ws_aug N hi hx ho lift_I hd (h.imp fun y M1 ⟨j, e, hc, q⟩ => ⟨n, j, rfl, e, hc, q⟩) hf
theorem iop_addQ : OpR X (inplaceOp .Add) (rI (fun _ _ => True) fun i j => .int (i + j)) := opI fun _ _ _ _ _ _ _ _ q => iadd_int q
theorem iop_subQ : OpR X (inplaceOp .Sub) (rI (fun _ _ => True) fun i j => .int (i - j)) := opI fun _ _ _ _ _ _ _ _ q => isub_int q
theorem iop_mulQ : OpR X (inplaceOp .Mult) (rI IntMulOk fun i j => .int (i * j)) := opI fun _ _ _ _ _ _ _ hc q => imul_int q hc
theorem iop_fdivQ : OpR X (inplaceOp .FloorDiv) (rI CDivW fun i j => .int (i / j)) := opI fun i j _ _ _ _ _ hc q => by
  have h1 : (0 : Int) < j := hc.1
  exact ifloordiv_int (by omega) (by rw [Int.fdiv_eq_ediv_of_nonneg i (by omega)]; exact q) (.inl (PyProof.noPylong_of_log2 hc.2))
theorem ws_while (N : Nice X) (I : Nat → Slots → Cells → Prop) (h0 : ∃ n, I n δ M)
    (hs : ∀ n δ' M', I n δ' M' → WT X P c δ' M' fun k M1 => if k = true then WB X P body δ' M1 { E with nx := fun δ2 M2 => ∃ m, m < n ∧ I m δ2 M2, ct := fun δ2 M2 => ∃ m, m < n ∧ I m δ2 M2, bk := E.nx } else E.nx δ' M1) : WS X P (.While c body [] pos) δ M E :=
  ws_of (ps_while N.own pt_sem pss_sem) fun σ H F G => by
    obtain ⟨n0, i0⟩ := h0
    refine ⟨fun n σ' H' => ∃ F' M' δ', Same F F' ∧ Go X P F' M' δ' σ' H' ∧ I n δ' M', ⟨n0, F, M, δ, Same.refl _, G, i0⟩, ?_⟩
    rintro n σ1 H1 ⟨F1, M1, δ1, s1, G1, i1⟩
    refine (hs n δ1 M1 i1).go G1 fun k H2 F2 M2 s2 G2 q2 => ?_
    cases k with
    | false => rw [if_neg (by decide)] at q2 ⊢; exact nx_ G2.st (s1.trans s2) q2
    | true =>
      rw [if_pos rfl] at q2 ⊢
      refine ⟨upN X.K F (fun δ2 M2 => ∃ m, m < n ∧ I m δ2 M2), fun σ3 H3 ⟨F3, M3, δ3, s3, S3, m, hm, i3⟩ => ⟨m, hm, F3, M3, δ3, s3, ⟨S3, G.tk.up s3⟩, i3⟩, ?_⟩
      exact q2.go G2 (s1.trans s2)
/-- what an iterator walks: the items, and while what it goes on -/
def WalkP (K : PySem.W.Frag) (J : It) (F : Hp) (ds : List D) (Sb : Cells → Prop) : Prop :=
  ∀ (F' : Hp) (M' : Cells) (δ' : Slots) (σ' : L2.St) (H' : Hp), Same F F' → Stt K F' M' δ' σ' H' → Sb M' →
    (∀ i, i < ds.length → J.go i H') ∧ J.stop ds.length H' ∧ ∀ i x H2, i < ds.length → J.yld i H' x H2 → ∃ F2 d, Same F' F2 ∧ Stt K F2 M' δ' σ' H2 ∧ ds[i]? = some d ∧ Rep K F2 x d
def tI (X : Cx) (tg e : Expr) : TI := fun σ H R => ∀ pins s, Inv X pins σ H s → wpAny (model X.prog X.w) X.A (eval e X.env) (fun v s1 => wpAny (model X.prog X.w) X.A (pyIter v) (PIE X pins σ tg R) X.xe s1) X.xe s
theorem pi_sem {tg : Expr} : PI X tg e (tI X tg e) := ⟨fun pins s _ _ _ I h => h pins s I⟩
def upI (K : PySem.W.Frag) (F : Hp) (δ : Slots) (σ : L2.St) (R : List D → (Cells → Prop) → Cells → Prop) : It → Hp → Prop := fun J H' => ∃ F' M' ds Sb, Same F F' ∧ Stt K F' M' δ σ H' ∧ WalkP K J F' ds Sb ∧ R ds Sb M'
def WI (X : Cx) (P : XP) (tg e : Expr) (δ : Slots) (M : Cells) (R : List D → (Cells → Prop) → Cells → Prop) : Prop := ∀ σ H F, Go X P F M δ σ H → tI X tg e σ H (upI X.K F δ σ R)
theorem tI.mono {tg : Expr} {R R' : It → Hp → Prop} (h : tI X tg e σ H R) (k : ∀ J H, R J H → R' J H) : tI X tg e σ H R' := fun pins s I => thn (h pins s I) fun _ _ q => thn q fun _ _ ⟨it, fp, tn, J, H', e1, I', T, t0, f, r⟩ => ⟨it, fp, tn, J, H', e1, I', T, t0, f, k _ _ r⟩
theorem wi_of {tg : Expr} {t : TI} {R : List D → (Cells → Prop) → Cells → Prop} (p : PI X tg e t) (h : ∀ σ H F, Go X P F M δ σ H → t σ H (upI X.K F δ σ R)) : WI X P tg e δ M R := fun σ H F G pins s I => p.run pins s σ H _ I (h σ H F G)
theorem ws_for {tg iter : Expr} (N : Nice X) (h : WI X P tg iter δ M fun ds Sb M1 => ∃ I : Nat → Slots → Cells → Prop, I 0 δ M1 ∧ (∀ i δ' M', i ≤ ds.length → I i δ' M' → Sb M') ∧
      (∀ i d δ' M', ds[i]? = some d → I i δ' M' → WG X P tg d δ' M' fun δ2 M2 => WB X P body δ2 M2 { E with nx := I (i + 1), ct := I (i + 1), bk := E.nx }) ∧ (∀ δ' M', I ds.length δ' M' → E.nx δ' M'))
    (hs : ∀ x, foldedSetIterable iter X.env x = pure x := by intro _; rfl) : WS X P (.For tg iter body [] pos) δ M E :=
  ws_of (ps_for N.own N.calm pi_sem pg_sem pss_sem hs) fun σ H F G => (h σ H F G).mono fun J H1 ⟨F1, M1, ds, Sb, s1, S1, wk, I, i0, iS, iT, iE⟩ => by
    refine ⟨fun i n σ' H' => n = ds.length - i ∧ i ≤ ds.length ∧ ∃ F' M' δ', Same F1 F' ∧ Stt X.K F' M' δ' σ' H' ∧ I i δ' M', ⟨ds.length, by simp, Nat.zero_le _, F1, M1, δ, Same.refl _, S1, i0⟩, ?_⟩
    rintro i n σ2 H2 ⟨rfl, hi, F2, M2, δ2, s2, S2, i2⟩
    obtain ⟨wg, ws, wy⟩ := wk F2 M2 δ2 σ2 H2 s2 S2 (iS i δ2 M2 hi i2)
    by_cases hlt : i < ds.length
    · refine .inr ⟨wg i hlt, upN X.K F1 (I (i + 1)), fun σ3 H3 ⟨F3, M3, δ3, s3, S3, i3⟩ => ⟨ds.length - (i + 1), by omega, rfl, hlt, F3, M3, δ3, s3, S3, i3⟩, fun x H3 y => ?_⟩
      obtain ⟨F3, d, s3, S3, hd, r3⟩ := wy i x H3 hlt y
      have s13 := (s2.trans s3)
      refine (iT i d δ2 M2 hd i2 σ2 H3 F3 x ⟨S3, G.tk.up (s1.trans s13)⟩ r3).mono fun σ4 H4 ⟨F4, M4, δ4, s4, S4, q4⟩ => ?_
      have s14 := s13.trans s4
      refine (q4 σ4 H4 F4 ⟨S4, G.tk.up (s1.trans s14)⟩).mono ⟨fun _ _ q => upN.base s14 q, fun _ _ q => upR.base (s1.trans s14) q, fun _ _ q => upN.base (s1.trans s14) q, fun _ _ q => upN.base s14 q⟩
    · have e : i = ds.length := by omega
      subst e
      exact .inl ⟨ws, nx_ S2 (s1.trans s2) (iE δ2 M2 i2)⟩

theorem walkP_of {K : PySem.W.Frag} {J : It} {n : Nat} {G : Hp → Prop} {Y : Nat → Hp → V → Hp → Prop} (w : L2.Walk J n G Y) {ds : List D} {Sb : Cells → Prop} (hn : ds.length = n) (hG : ∀ (F' : Hp) (M' : Cells) (δ' : Slots) (σ' : L2.St) (H' : Hp), Same F F' → Stt K F' M' δ' σ' H' → Sb M' → G H')
    (hY : ∀ (F' : Hp) (M' : Cells) (δ' : Slots) (σ' : L2.St) (H' : Hp) i x H2, i < n → Same F F' → Stt K F' M' δ' σ' H' → Y i H' x H2 → ∃ F2 d, Same F' F2 ∧ Stt K F2 M' δ' σ' H2 ∧ ds[i]? = some d ∧ Rep K F2 x d) : WalkP K J F ds Sb := by
  intro F' M' δ' σ' H' s S q
  have g := hG F' M' δ' σ' H' s S q
  subst hn
  exact ⟨fun i hi => w.goes i H' hi g, w.stops H' g, fun i x H2 hi y => hY F' M' δ' σ' H' i x H2 hi s S (w.yields i H' x H2 hi g y)⟩
theorem Stt.stayL {K : PySem.W.Frag} {d : D} {ds : List D} (h : LV M d ds) {F' : Hp} {M' : Cells} {δ' : Slots} {σ' : L2.St} {H' : Hp} {v : V} (r : Rep K F v d) (s : Same F F') (S' : Stt K F' M' δ' σ' H') (hM : LV M' d ds) : ∃ a vs, v = .ref a ∧ SqL K H' a vs ∧ Reps K F' vs ds := S'.readL (r.up s) hM
theorem wi_list {tg : Expr} {R : List D → (Cells → Prop) → Cells → Prop} (h : WE X P e δ M fun d M1 => ∃ ds, LV M1 d ds ∧ R ds (fun M' => LV M' d ds) M1) : WI X P tg e δ M R :=
  wi_of (pi_list pe_sem) fun σ H F G => h.go G fun v H1 F1 M1 d s1 G1 r1 ⟨ds, hl, q⟩ => by
    obtain ⟨a, vs, rfl, e1, e2⟩ := G1.st.readL r1 hl
    refine ⟨a, rfl, ⟨vs, e1⟩, F1, M1, ds, _, s1, G1.st, ?_, q⟩
    intro F' M' δ' σ' H' s S hM
    obtain ⟨a', xs, ea, f1, f2⟩ := S.readL (r1.up s) hM
    cases ea
    have w := walk_list (K := X.K) (a := a) (xs := xs)
    refine ⟨fun i hi => w.goes i H' (by rw [f2.length]; exact hi) f1, by rw [← f2.length]; exact w.stops H' f1, fun i x H2 hi y => ?_⟩
    obtain ⟨rfl, y2⟩ := w.yields i H' x H2 (by rw [f2.length]; exact hi) f1 y
    obtain ⟨d', h1, h2⟩ := f2.get' y2
    exact ⟨F', d', Same.refl _, S, h1, h2⟩
theorem wi_tup {tg : Expr} {R : List D → (Cells → Prop) → Cells → Prop} (h : WE X P e δ M fun d M1 => ∃ ds, d = .tup ds ∧ R ds (fun _ => True) M1) : WI X P tg e δ M R :=
  wi_of (pi_tup pe_sem) fun σ H F G => h.go G fun v H1 F1 M1 d s1 G1 r1 ⟨ds, hl, q⟩ => by
    subst hl
    obtain ⟨a, vs, rfl, e1, e2⟩ := G1.st.readT r1
    refine ⟨a, rfl, ⟨vs, e1⟩, F1, M1, ds, _, s1, G1.st, ?_, q⟩
    intro F' M' δ' σ' H' s S hM
    obtain ⟨a', xs, ea, f1, f2⟩ := S.readT (r1.up s)
    cases ea
    have w := walk_tup (K := X.K) (a := a) (xs := xs)
    refine ⟨fun i hi => w.goes i H' (by rw [f2.length]; exact hi) f1, by rw [← f2.length]; exact w.stops H' f1, fun i x H2 hi y => ?_⟩
    obtain ⟨rfl, y2⟩ := w.yields i H' x H2 (by rw [f2.length]; exact hi) f1 y
    obtain ⟨d', h1, h2⟩ := f2.get' y2
    exact ⟨F', d', Same.refl _, S, h1, h2⟩
/-- lo, lo + 1, .. -/
def rangeD (lo : Int) (n : Nat) : List D := (List.range n).map fun i => D.int (lo + (i : Nat))
theorem rangeD_len (lo : Int) (n : Nat) : (rangeD lo n).length = n := by simp [rangeD]
theorem rangeD_get {lo : Int} {n i : Nat} (h : i < n) : (rangeD lo n)[i]? = some (.int (lo + (i : Nat))) := by simp [rangeD, h]
theorem rangeD_inv {lo : Int} {n i : Nat} {d : D} (h : (rangeD lo n)[i]? = some d) : i < n ∧ d = .int (lo + (i : Nat)) := by
  have hi : i < n := by have := (List.getElem?_eq_some_iff.mp h).1; rwa [rangeD_len] at this
  rw [rangeD_get hi] at h
  exact ⟨hi, (Option.some.inj h).symm⟩
theorem walkP_range {K : PySem.W.Frag} {lo : Int} {n : Nat} : WalkP K (Itr lo n) F (rangeD lo n) (fun _ => True) :=
  walkP_of walk_range (rangeD_len lo n) (fun _ _ _ _ _ _ _ _ => trivial) fun F' M' δ' σ' H' i x H2 hi s S y => by
    obtain ⟨rfl, rfl⟩ := y
    exact ⟨F', _, Same.refl _, S, rangeD_get hi, .int _⟩
theorem wi_range1 {tg : Expr} {R : List D → (Cells → Prop) → Cells → Prop} (hg : Gl X "range") (hm : X.mg "range" = none) (h : WA X P [a] δ M fun ds M1 => ∃ j : Int, ds = [.int j] ∧ -(2 ^ 62) ≤ j ∧ j < 2 ^ 62 ∧ R (rangeD 0 j.toNat) (fun _ => True) M1) (hs : starEach [a] X.env = [(false, eval a X.env)] := by rfl) : WI X P tg (.Call (.Name "range" p) [a] [] pos) δ M R :=
  wi_of (pi_range1 hg hm pa_sem hs) fun σ H F G => h.go G fun vs H1 F1 M1 ds s1 G1 r1 ⟨j, e, h1, h2, q⟩ => by
    subst e
    obtain ⟨v, rfl, r⟩ := r1.one
    cases r
    exact ⟨j, rfl, h1, h2, F1, M1, _, _, s1, G1.st, walkP_range, q⟩
theorem wi_range2 {tg : Expr} {R : List D → (Cells → Prop) → Cells → Prop} (hg : Gl X "range") (hm : X.mg "range" = none) (h : WA X P [a, b] δ M fun ds M1 => ∃ i j : Int, ds = [.int i, .int j] ∧ (-(2 ^ 62) ≤ i ∧ i < 2 ^ 62 ∧ -(2 ^ 62) ≤ j ∧ j < 2 ^ 62) ∧ R (rangeD i (j - i).toNat) (fun _ => True) M1) (hs : starEach [a, b] X.env = [(false, eval a X.env), (false, eval b X.env)] := by rfl) (hs2 : starEach [b] X.env = [(false, eval b X.env)] := by rfl) : WI X P tg (.Call (.Name "range" p) [a, b] [] pos) δ M R :=
  wi_of (pi_range2 hg hm pa_sem hs hs2) fun σ H F G => h.go G fun vs H1 F1 M1 ds s1 G1 r1 ⟨i, j, e, h1, q⟩ => by
    subst e
    obtain ⟨v, w, rfl, r, r'⟩ := r1.two
    cases r; cases r'
    exact ⟨i, j, rfl, h1, F1, M1, _, _, s1, G1.st, walkP_range, q⟩
def enumD (ds : List D) : List D := (List.range ds.length).map fun i => D.tup [.int (i : Nat), ds.getD i .non]
theorem enumD_len (ds : List D) : (enumD ds).length = ds.length := by simp [enumD]
theorem enumD_get {ds : List D} {i : Nat} {d : D} (h : ds[i]? = some d) : (enumD ds)[i]? = some (.tup [.int (i : Nat), d]) := by
  have hi := (List.getElem?_eq_some_iff.mp h).1
  have e : ds[i] = d := by
    rw [List.getElem?_eq_getElem hi] at h
    exact Option.some.inj h
  simp [enumD, hi, e]
theorem enumD_inv {ds : List D} {i : Nat} {z : D} (h : (enumD ds)[i]? = some z) : ∃ d, ds[i]? = some d ∧ z = .tup [.int (i : Nat), d] := by
  have hi : i < ds.length := by have := (List.getElem?_eq_some_iff.mp h).1; rwa [enumD_len] at this
  have e : ds[i]? = some ds[i] := by simp
  rw [enumD_get e] at h
  exact ⟨_, e, (Option.some.inj h).symm⟩
/-- a new pair is laid -/
theorem Stt.pair {K : PySem.W.Frag} (S : Stt K F M δ σ H) {T : Addr} {x y : V} {d d' : D} (hT : H T = none) (rx : Rep K F x d) (ry : Rep K F y d') : Same F (upd F T (.tup [x, y])) ∧ Stt K (upd F T (.tup [x, y])) M δ σ (upd H T (.tup [x, y])) ∧ Rep K (upd F T (.tup [x, y])) (.ref T) (.tup [d, d']) := by
  obtain ⟨S', s'⟩ := S.froz (o := .tup [x, y]) hT
  exact ⟨s', S', .tup (.of upd_same) (.cons (rx.up s') (.cons (ry.up s') .nil))⟩
theorem wi_enum {elts : List Expr} {kk : Nat} {tpos : Pos} {R : List D → (Cells → Prop) → Cells → Prop} (hg : Gl X "enumerate") (hm : X.mg "enumerate" = none) (h : WA X P [e] δ M fun ds M1 => ∃ d xs, ds = [d] ∧ LV M1 d xs ∧ R (enumD xs) (fun M' => LV M' d xs) M1) (hs : starEach [e] X.env = [(false, eval e X.env)] := by rfl) : WI X P (.Tuple elts kk tpos) (.Call (.Name "enumerate" p) [e] [] pos) δ M R :=
  wi_of (pi_enum hg hm pa_sem hs) fun σ H F G => h.go G fun vs H1 F1 M1 ds s1 G1 r1 ⟨d, xs, ed, hl, q⟩ => by
    subst ed
    obtain ⟨v, rfl, r⟩ := r1.one
    obtain ⟨a, vs, rfl, e1, e2⟩ := G1.st.readL r hl
    refine ⟨a, vs, rfl, e1, F1, M1, _, _, s1, G1.st, ?_, q⟩
    intro F' M' δ' σ' H' s S hM
    obtain ⟨a', ys, ea, f1, f2⟩ := S.readL (r.up s) hM
    cases ea
    have w := walk_enum (K := X.K) (a := a) (xs := ys)
    rw [enumD_len]
    refine ⟨fun i hi => w.goes i H' (by rw [f2.length]; exact hi) f1, by rw [← f2.length]; exact w.stops H' f1, fun i x H2 hi y => ?_⟩
    obtain ⟨T, x1, x2, rfl, hT, rfl, h1, h2⟩ := w.yields i H' x H2 (by rw [f2.length]; exact hi) f1 y
    cases h1
    obtain ⟨d', g1, g2⟩ := f2.get' h2
    obtain ⟨s', S', r'⟩ := S.pair hT (.int _) g2
    exact ⟨_, _, s', S', enumD_get g1, r'⟩
def zipD (xs ys : List D) : List D := (xs.zip ys).map fun p => D.tup [p.1, p.2]
theorem zipD_len (xs ys : List D) : (zipD xs ys).length = min xs.length ys.length := by simp [zipD]
theorem zipD_get {xs ys : List D} {i : Nat} {x y : D} (h : xs[i]? = some x) (g : ys[i]? = some y) : (zipD xs ys)[i]? = some (.tup [x, y]) := by
  have e : (xs.zip ys)[i]? = some (x, y) := List.getElem?_zip_eq_some.mpr ⟨h, g⟩
  unfold zipD
  rw [List.getElem?_map, e]
  rfl
theorem zipD_inv {xs ys : List D} {i : Nat} {z : D} (h : (zipD xs ys)[i]? = some z) : ∃ x y, xs[i]? = some x ∧ ys[i]? = some y ∧ z = .tup [x, y] := by
  unfold zipD at h
  rw [List.getElem?_map] at h
  cases e : (xs.zip ys)[i]? with
  | none => rw [e] at h; cases h
  | some q =>
    rw [e] at h
    obtain ⟨h1, h2⟩ := List.getElem?_zip_eq_some.mp e
    exact ⟨_, _, h1, h2, (Option.some.inj h).symm⟩
theorem wi_zip {elts : List Expr} {kk : Nat} {tpos : Pos} {R : List D → (Cells → Prop) → Cells → Prop} (hg : Gl X "zip") (hm : X.mg "zip" = none) (h : WA X P [a, b] δ M fun ds M1 => ∃ d1 d2 xs ys, ds = [d1, d2] ∧ LV M1 d1 xs ∧ LV M1 d2 ys ∧ R (zipD xs ys) (fun M' => LV M' d1 xs ∧ LV M' d2 ys) M1)
    (hs : starEach [a, b] X.env = (false, eval a X.env) :: starEach [b] X.env := by rfl) (hpl : (backTo pos (starEach [b] X.env)).any (·.1) = false := by rfl) : WI X P (.Tuple elts kk tpos) (.Call (.Name "zip" p) [a, b] [] pos) δ M R :=
  wi_of (pi_zip hg hm pa_sem hs hpl) fun σ H F G => h.go G fun vs H1 F1 M1 ds s1 G1 r1 ⟨d1, d2, xs, ys, ed, hl1, hl2, q⟩ => by
    subst ed
    obtain ⟨v, v2, rfl, r, r'⟩ := r1.two
    obtain ⟨a, vs, rfl, e1, e2⟩ := G1.st.readL r hl1
    obtain ⟨a', vs', rfl, e1', e2'⟩ := G1.st.readL r' hl2
    refine ⟨a, a', vs, vs', rfl, e1, e1', F1, M1, _, _, s1, G1.st, ?_, q⟩
    intro F' M' δ' σ' H' s S hM
    obtain ⟨_, zs, ea, f1, f2⟩ := S.readL (r.up s) hM.1
    cases ea
    obtain ⟨_, zs', ea, f1', f2'⟩ := S.readL (r'.up s) hM.2
    cases ea
    have w := walk_zip (K := X.K) (a := a) (b := a') (xs := zs) (ys := zs') rfl
    rw [zipD_len]
    have el : min xs.length ys.length = min zs.length zs'.length := by rw [f2.length, f2'.length]
    rw [el]
    refine ⟨fun i hi => w.goes i H' hi ⟨f1, f1'⟩, w.stops H' ⟨f1, f1'⟩, fun i x H2 hi y => ?_⟩
    obtain ⟨T, x1, x2, rfl, hT, rfl, h1, h2⟩ := w.yields i H' x H2 hi ⟨f1, f1'⟩ y
    obtain ⟨z1, g1, g2⟩ := f2.get' h1
    obtain ⟨z2, g3, g4⟩ := f2'.get' h2
    obtain ⟨s', S', r'⟩ := S.pair hT g2 g4
    exact ⟨_, _, s', S', zipD_get g1 g3, r'⟩
end
end PW
/-! PW5 -/
namespace PW
open PySem L2 PyProof.Rows

def wipeD (δ : Slots) : List Nat → Slots
  | [] => δ
  | v :: vs => (wipeD δ vs).set v none
theorem wipeD_length (δ : Slots) : ∀ vs : List Nat, (wipeD δ vs).length = δ.length
  | [] => rfl
  | v :: vs => by unfold wipeD; rw [List.length_set, wipeD_length δ vs]
theorem wipeD_some {δ : Slots} {i : Nat} {x : D} : ∀ {vs : List Nat}, (wipeD δ vs)[i]? = some (some x) → δ[i]? = some (some x) ∧ i ∉ vs
  | [], h => ⟨h, by simp⟩
  | v :: vs, h => by
    unfold wipeD at h
    rcases getElem?_set_cases h with ⟨_, e⟩ | ⟨h1, h2⟩
    · cases e
    · obtain ⟨h3, h4⟩ := wipeD_some h2
      exact ⟨h3, by simp only [List.mem_cons, not_or]; exact ⟨h1, h4⟩⟩
theorem Stt.wipe {K : PySem.W.Frag} {F : Hp} {M : Cells} {δ : Slots} {σ : L2.St} {H : Hp} (S : Stt K F M δ σ H) (vs : List Nat) : Stt K F M (wipeD δ vs) (L2.wipe σ vs) H :=
  S.slots (by rw [wipeD_length, L2.wipe_length]; exact S.dlen) fun i d h => by
    obtain ⟨h1, h2⟩ := wipeD_some h
    obtain ⟨v, e1, e2⟩ := S.slot i d h1
    exact ⟨v, by rw [L2.wipe_out h2]; exact e1, e2⟩
/-- the context of a comprehension's block -/
structure BK where
  s0 : Shared
  H0 : Hp
  C : Addr
  cl : List (Str × Addr)
  fp : List Addr
abbrev Bx (X : Cx) (scope : Scope) (b : BK) : Cx := X.blk b.s0 b.H0 scope (compEnvC scope b.cl b.C X.env) b.fp
/-- how a target binds the item in the block's slots: one name, two names -/
inductive Tg (X : Cx) (scope : Scope) : Expr → List (Str × Nat) → (D → Slots → Slots → Prop) → TG → Prop
  | one {x : Str} {i : Nat} {pos : Pos} (hi : X.N[i]? = some x) (hx : scope.names.lookup x = some .local) : Tg X scope (.Name x pos) [(x, i)] (fun d δ δ' => δ' = δ.set i (some d)) (gName i)
  | two {x y : Str} {i j : Nat} {px py pos : Pos} {kk : Nat} (hi : X.N[i]? = some x) (hj : X.N[j]? = some y) (hij : i ≠ j) (hx : scope.names.lookup x = some .local) (hy : scope.names.lookup y = some .local) :
      Tg X scope (.Tuple [.Name x px, .Name y py] kk pos) [(x, i), (y, j)] (fun d δ δ' => ∃ d1 d2, d = .tup [d1, d2] ∧ δ' = (δ.set i (some d1)).set j (some d2)) (gTup X.K 2 (gCons (gName i) (gCons (gName j) gNil)))
section
variable {X : Cx} {P : XP} {F : Hp} {M : Cells} {δ : Slots} {σ : L2.St} {H : Hp} {e a b c o elt iter tg : Expr} {es ifs : List Expr} {pos apos cpos p p2 : Pos} {scope : Scope} {own : List (Str × Nat)} {bind : D → Slots → Slots → Prop} {g : TG}
theorem blk_loc {scope : Scope} {x : Str} {cl : List (Str × Addr)} {C : Addr} {env : Env} (hx : scope.names.lookup x = some .local) : (compEnvC scope cl C env).scope.names.lookup x = some .local := lookup_relabel_local hx
theorem Tg.pg (N : Nice X) (T : Tg X scope tg own bind g) (s : Shared) (H : Hp) (C : Addr) (cl : List (Str × Addr)) (fp : List Addr) : PG (X.blk s H scope (compEnvC scope cl C X.env) fp) tg g := by
  cases T with
  | one hi hx => exact pg_name N.nd hi (.inl (blk_loc hx)) (.inr (blk_loc hx))
  | two hi hj hij hx hy => exact pg_tup N.calm (pgs_cons (pg_name N.nd hi (.inl (blk_loc hx)) (.inr (blk_loc hx))) (pgs_cons (pg_name N.nd hj (.inl (blk_loc hy)) (.inr (blk_loc hy))) pgs_nil))
theorem Tg.run {d : D} {δ' : Slots} {x : V} (T : Tg X scope tg own bind g) (S : Stt X.K F M δ σ H) (r : Rep X.K F x d) (hb : bind d (wipeD δ (own.map (·.2))) δ') {K' : L2.St → Hp → Prop}
    (k : ∀ σ', Stt X.K F M δ' σ' H → L2.wipe σ' (own.map (·.2)) = L2.wipe σ (own.map (·.2)) → K' σ' H) : g x (L2.wipe σ (own.map (·.2))) H K' := by
  cases T with
  | @one y i _ hi hx =>
    subst hb
    refine k _ ((S.wipe [i]).setSlot r) ?_
    show ((σ.set i none).set i (some x)).set i none = σ.set i none
    rw [List.set_set, List.set_set]
  | @two y z i j _ _ _ _ hi hj hij hx hy =>
    obtain ⟨d1, d2, rfl, rfl⟩ := hb
    obtain ⟨a, vs, rfl, e1, e2⟩ := S.readT r
    obtain ⟨v, w, rfl, r1, r2⟩ := e2.two
    refine ⟨a, [v, w], rfl, e1, rfl, v, [w], rfl, w, [], rfl, rfl, k _ (((S.wipe [i, j]).setSlot r1).setSlot r2) ?_⟩
    show (((((σ.set j none).set i none).set i (some v)).set j (some w)).set j none).set i none = (σ.set j none).set i none
    rw [List.set_set, List.set_set, List.set_comm _ _ hij, List.set_set, List.set_set, List.set_comm _ _ (Ne.symm hij)]
/-- a block's tests -/
def Tt (K : PySem.W.Frag) (tt : TT) (δ : Slots) (M : Cells) (Q : Bool → Cells → Prop) : Prop := ∀ σ H F (Q' : Bool → Hp → Prop), Stt K F M δ σ H → (∀ k H', upT K F δ σ Q k H' → Q' k H') → tt σ H Q'
/-- a list comprehension with one for, as an expression or as what a name is set to -/
def LC (X : Cx) (P : XP) (elt tg iter : Expr) (ifs : List Expr) (scope : Scope) (δ : Slots) (M : Cells) (Q : D → Cells → Prop) : Prop :=
  ∃ (own : List (Str × Nat)) (g : TG) (tt : TT) (te : TE), BlkOk X.N X.env.scope scope own ∧ (∀ (s : Shared) (H : Hp) (C : Addr) (cl : List (Str × Addr)) (fp : List Addr), PG (X.blk s H scope (compEnvC scope cl C X.env) fp) tg g) ∧
    (∀ (s : Shared) (H : Hp) (C : Addr) (cl : List (Str × Addr)) (fp : List Addr), PTs (X.blk s H scope (compEnvC scope cl C X.env) fp) ifs tt) ∧ (∀ (s : Shared) (H : Hp) (C : Addr) (cl : List (Str × Addr)) (fp : List Addr), PE (X.blk s H scope (compEnvC scope cl C X.env) fp) elt te) ∧
    (∀ x, foldedSetIterable iter X.env x = pure x) ∧ ∀ σ H F (Q' : VK), Go X P F M δ σ H → (∀ v H', upE X.K F δ σ Q v H' → Q' v H') → tLc (tI X tg iter) g tt te (own.map (·.2)) σ H Q'
theorem we_ofLC {Q : D → Cells → Prop} (N : Nice X) (h : LC X P elt tg iter ifs scope δ M Q) : WE X P (.ListComp elt [⟨tg, iter, ifs, 0⟩] scope pos) δ M Q := by
  obtain ⟨own, g, tt, te, ok, pg, pts, pe, hs, r⟩ := h
  exact we_of (pe_lc N.calm N.nd pi_sem ok pg pts pe hs) fun σ H F G => r σ H F _ G fun _ _ z => z
/-- name = [..] on one line, the name a local -/
theorem ws_setLC {E : En} {i : Nat} {y : Str} {py spos : Pos} (N : Nice X) (hi : X.N[i]? = some y) (hyl : X.env.scope.names.lookup y = some .local) (h : LC X P elt tg iter ifs scope δ M fun d M' => E.nx (δ.set i (some d)) M')
    (hk : X.env.scope.kind = .function := by rfl) (hl : (py.line == pos.line) = true := by rfl) (ha : (scope.names.any fun (n, k) => n == y && (k == .local || k == .cell)) = false := by rfl) :
    WS X P (.Assign [.Name y py] (.ListComp elt [⟨tg, iter, ifs, 0⟩] scope pos) spos) δ M E := by
  obtain ⟨own, g, tt, te, ok, pg, pts, pe, hs, r⟩ := h
  exact ws_of (ps_setLc N.calm N.nd hi hyl (sw_true hk hyl hl ha) pi_sem ok pg pts pe hs) fun σ H F G => r σ H F _ G fun v H' ⟨F', M', d, s, S, rr, q⟩ => nx_ (S.setSlot rr) s q
theorem lc_froz (k : Nat) {Q : D → Cells → Prop} (h : LC X P elt tg iter ifs scope δ M fun d M1 => ∃ (p : Addr) (ds : List D), d = .cel p ∧ M1[k]? = some (p, .lst ds) ∧ Q (.lst ds) (M1.eraseIdx k)) : LC X P elt tg iter ifs scope δ M Q := by
  obtain ⟨own, g, tt, te, ok, pg, pts, pe, hs, r⟩ := h
  refine ⟨own, g, tt, te, ok, pg, pts, pe, hs, fun σ H F Q' G k' => r σ H F Q' G fun v H' ⟨F1, M1, d, s1, S1, r1, p, ds, e, hk, q⟩ => ?_⟩
  subst e
  cases r1
  obtain ⟨F2, s2, S2, r2⟩ := S1.freeze hk
  exact k' _ _ (ret S2 (s1.trans s2) r2 q)
theorem lc_main (N : Nice X) (T : Tg X scope tg own bind g) (ok : BlkOk X.N X.env.scope scope own) {tt : TT} (ht : ∀ (s : Shared) (H : Hp) (C : Addr) (cl : List (Str × Addr)) (fp : List Addr), PTs (X.blk s H scope (compEnvC scope cl C X.env) fp) ifs tt) {Q : D → Cells → Prop}
    (h : WI X P tg iter δ M fun ds Sb M1 => ∃ J : Nat → List D → Cells → Prop, J 0 [] M1 ∧ (∀ i acc M' p, i ≤ ds.length → J i acc M' → Sb ((p, .lst acc) :: M')) ∧
      (∀ i d acc M' p, ds[i]? = some d → J i acc M' → ∃ δ', bind d (wipeD δ (own.map (·.2))) δ' ∧ Tt X.K tt δ' ((p, .lst acc) :: M') fun k M2 =>
        if k = true then ∀ B : BK, WE (Bx X scope B) PX0 elt δ' M2 fun y M3 => ∃ acc' M4, M3 = (p, .lst acc') :: M4 ∧ acc'.length < sizeLine ∧ J (i + 1) (acc' ++ [y]) M4
        else ∃ acc' M4, M2 = (p, .lst acc') :: M4 ∧ J (i + 1) acc' M4) ∧
      ∀ acc M' p, J ds.length acc M' → Q (.cel p) ((p, .lst acc) :: M'))
    (hs : ∀ x, foldedSetIterable iter X.env x = pure x) : LC X P elt tg iter ifs scope δ M Q := by
  refine ⟨own, g, tt, fun σ H Q => ∀ B : BK, tE (Bx X scope B) elt σ H Q, ok, T.pg N, ht, fun s H C cl fp => ⟨fun pins s' σ H' Q I h => h ⟨s, H, C, cl, fp⟩ pins s' I⟩, hs, fun σ H F Q' G kq => ?_⟩
  refine (h σ H F G).mono fun J H1 ⟨F1, M1, ds, Sb, s1, S1, wk, Jv, j0, jS, jT, jE⟩ => fun D hD => ?_
  refine ⟨fun i m H' => m = ds.length - i ∧ i ≤ ds.length ∧ ∃ F' M' acc, Same F1 F' ∧ Stt X.K F' ((D, .lst acc) :: M') δ σ H' ∧ Jv i acc M', ⟨ds.length, by simp, Nat.zero_le _, F1, M1, [], Same.refl _, S1.newL hD .nil, j0⟩, ?_⟩
  rintro i m H2 ⟨rfl, hi, F2, M2, acc, s2, S2, j2⟩
  obtain ⟨wg, ws, wy⟩ := wk F2 _ δ σ H2 s2 S2 (jS i acc M2 D hi j2)
  by_cases hlt : i < ds.length
  · refine .inr ⟨wg i hlt, fun H' => ∃ F' M' acc', Same F1 F' ∧ Stt X.K F' ((D, .lst acc') :: M') δ σ H' ∧ Jv (i + 1) acc' M', fun H' ⟨F', M', acc', s', S', j'⟩ => ⟨ds.length - (i + 1), by omega, rfl, hlt, F', M', acc', s', S', j'⟩, fun x H3 y => ?_⟩
    obtain ⟨F3, d, s3, S3, hd, r3⟩ := wy i x H3 hlt y
    obtain ⟨δ', hb, hT⟩ := jT i d acc M2 D hd j2
    refine T.run S3 r3 hb fun σ' S' ew => ⟨ew, hT σ' H3 F3 _ S' fun k H4 ⟨F4, M4, s4, S4, q4⟩ => ?_⟩
    have s14 : Same F1 F4 := (s2.trans s3).trans s4
    cases k with
    | false =>
      rw [if_neg (by decide)] at q4 ⊢
      obtain ⟨acc', M5, rfl, j5⟩ := q4
      exact ⟨F4, M5, acc', s14, S4.keep S1 s14, j5⟩
    | true =>
      rw [if_pos rfl] at q4 ⊢
      intro B
      refine (q4 B).go ⟨S4, TakesP.none⟩ fun yv H5 F5 M5 yd s5 G5 r5 q5 => ?_
      obtain ⟨acc', M6, rfl, hl, j6⟩ := q5
      obtain ⟨vs, e1, e2, e3⟩ := G5.st.cellAt (List.Mem.head _)
      have S6 := G5.st.setCell (k := 0) (c' := .lst (acc' ++ [yd])) rfl ⟨vs ++ [yv], upd_same, e3.append (.cons r5 .nil)⟩
      exact ⟨vs, e1, by rw [e3.length]; exact hl, F5, M6, acc' ++ [yd], s14.trans s5, Stt.keep (K := X.K) S6 S1 (s14.trans s5), j6⟩
  · have e : i = ds.length := by omega
    subst e
    exact .inl ⟨ws, kq _ _ (ret S2 (s1.trans s2) (.cel D) (jE acc M2 D j2))⟩
/-- no test -/
theorem lc_lc (N : Nice X) (T : Tg X scope tg own bind g) (ok : BlkOk X.N X.env.scope scope own) {Q : D → Cells → Prop}
    (h : WI X P tg iter δ M fun ds Sb M1 => ∃ J : Nat → List D → Cells → Prop, J 0 [] M1 ∧ (∀ i acc M' p, i ≤ ds.length → J i acc M' → Sb ((p, .lst acc) :: M')) ∧
      (∀ i d acc M' p, ds[i]? = some d → J i acc M' → ∃ δ', bind d (wipeD δ (own.map (·.2))) δ' ∧ ∀ B : BK, WE (Bx X scope B) PX0 elt δ' ((p, .lst acc) :: M') fun y M3 => ∃ acc' M4, M3 = (p, .lst acc') :: M4 ∧ acc'.length < sizeLine ∧ J (i + 1) (acc' ++ [y]) M4) ∧
      ∀ acc M' p, J ds.length acc M' → Q (.cel p) ((p, .lst acc) :: M'))
    (hs : ∀ x, foldedSetIterable iter X.env x = pure x := by intro _; rfl) : LC X P elt tg iter [] scope δ M Q := by
  refine lc_main N T ok (fun _ _ _ _ _ => pts_nil) ?_ hs
  intro σ H F G
  refine (h σ H F G).mono fun J H1 ⟨F1, M1, ds, Sb, s1, S1, wk, Jv, j0, jS, jT, jE⟩ => ⟨F1, M1, ds, Sb, s1, S1, wk, Jv, j0, jS, fun i d acc M' p hd j => ?_, jE⟩
  obtain ⟨δ', hb, hB⟩ := jT i d acc M' p hd j
  exact ⟨δ', hb, fun σ H F Q' S k => k true H ⟨F, _, Same.refl _, S, by show (if true = true then _ else _); rw [if_pos rfl]; exact hB⟩⟩
/-- one test -/
theorem lc_lcIf (N : Nice X) (T : Tg X scope tg own bind g) (ok : BlkOk X.N X.env.scope scope own) {Q : D → Cells → Prop}
    (h : WI X P tg iter δ M fun ds Sb M1 => ∃ J : Nat → List D → Cells → Prop, J 0 [] M1 ∧ (∀ i acc M' p, i ≤ ds.length → J i acc M' → Sb ((p, .lst acc) :: M')) ∧
      (∀ i d acc M' p, ds[i]? = some d → J i acc M' → ∃ δ', bind d (wipeD δ (own.map (·.2))) δ' ∧ ∀ B : BK, WT (Bx X scope B) PX0 c δ' ((p, .lst acc) :: M') fun k M2 =>
        if k = true then ∀ B : BK, WE (Bx X scope B) PX0 elt δ' M2 fun y M3 => ∃ acc' M4, M3 = (p, .lst acc') :: M4 ∧ acc'.length < sizeLine ∧ J (i + 1) (acc' ++ [y]) M4
        else ∃ acc' M4, M2 = (p, .lst acc') :: M4 ∧ J (i + 1) acc' M4) ∧
      ∀ acc M' p, J ds.length acc M' → Q (.cel p) ((p, .lst acc) :: M'))
    (hs : ∀ x, foldedSetIterable iter X.env x = pure x := by intro _; rfl) : LC X P elt tg iter [c] scope δ M Q := by
  refine lc_main (tt := fun σ H Q => ∀ B : BK, tT (Bx X scope B) c σ H Q) N T ok (fun s H C cl fp => pts_one ⟨fun pins s' σ H' Q I h => h ⟨s, H, C, cl, fp⟩ pins s' I⟩) ?_ hs
  intro σ H F G
  refine (h σ H F G).mono fun J H1 ⟨F1, M1, ds, Sb, s1, S1, wk, Jv, j0, jS, jT, jE⟩ => ⟨F1, M1, ds, Sb, s1, S1, wk, Jv, j0, jS, fun i d acc M' p hd j => ?_, jE⟩
  obtain ⟨δ', hb, hB⟩ := jT i d acc M' p hd j
  exact ⟨δ', hb, fun σ H F Q' S k B => (hB B).go ⟨S, TakesP.none⟩ fun v H' F' M' s G' q => k v H' ⟨F', M', s, G'.st, q⟩⟩
/-- the elements by a function of the item, the cells as they were -/
theorem lc_lcM (f : D → D) (N : Nice X) (T : Tg X scope tg own bind g) (ok : BlkOk X.N X.env.scope scope own) {Q : D → Cells → Prop}
    (h : WI X P tg iter δ M fun ds Sb M1 => ds.length ≤ sizeLine ∧ (∀ p acc, Sb ((p, .lst acc) :: M1)) ∧
      (∀ (i : Nat) d acc p, ds[i]? = some d → ∃ δ', bind d (wipeD δ (own.map (·.2))) δ' ∧ ∀ B : BK, WE (Bx X scope B) PX0 elt δ' ((p, .lst acc) :: M1) fun y M3 => M3 = (p, .lst acc) :: M1 ∧ y = f d) ∧
      ∀ p, Q (.cel p) ((p, .lst (ds.map f)) :: M1))
    (hs : ∀ x, foldedSetIterable iter X.env x = pure x := by intro _; rfl) : LC X P elt tg iter [] scope δ M Q := by
  refine lc_lc N T ok ?_ hs
  intro σ H F G
  refine (h σ H F G).mono fun J H1 ⟨F1, M1, ds, Sb, s1, S1, wk, hl, hS, hT, hE⟩ => ⟨F1, M1, ds, Sb, s1, S1, wk, fun i acc M' => M' = M1 ∧ acc = (ds.take i).map f, ⟨rfl, by simp⟩, fun i acc M' p hi ⟨e1, e2⟩ => by subst e1; exact hS p acc, fun i d acc M' p hd ⟨e1, e2⟩ => ?_, fun acc M' p ⟨e1, e2⟩ => by subst e1 e2; simpa using hE p⟩
  subst e1
  obtain ⟨δ', hb, hB⟩ := hT i d acc p hd
  have hi := (List.getElem?_eq_some_iff.mp hd).1
  refine ⟨δ', hb, fun B => (hB B).imp fun y M3 ⟨e3, e4⟩ => ⟨acc, _, e3, ?_, rfl, ?_⟩⟩
  · rw [e2, List.length_map, List.length_take]; omega
  · rw [e4, e2, List.take_succ, hd]; simp
/-- and a test by a function of the item -/
theorem lc_lcF (k : D → Bool) (f : D → D) (N : Nice X) (T : Tg X scope tg own bind g) (ok : BlkOk X.N X.env.scope scope own) {Q : D → Cells → Prop}
    (h : WI X P tg iter δ M fun ds Sb M1 => ds.length ≤ sizeLine ∧ (∀ p acc, Sb ((p, .lst acc) :: M1)) ∧
      (∀ (i : Nat) d acc p, ds[i]? = some d → ∃ δ', bind d (wipeD δ (own.map (·.2))) δ' ∧ ∀ B : BK, WT (Bx X scope B) PX0 c δ' ((p, .lst acc) :: M1) fun z M2 => M2 = (p, .lst acc) :: M1 ∧ z = k d ∧ (k d = true → ∀ B : BK, WE (Bx X scope B) PX0 elt δ' ((p, .lst acc) :: M1) fun y M3 => M3 = (p, .lst acc) :: M1 ∧ y = f d)) ∧
      ∀ p, Q (.cel p) ((p, .lst ((ds.filter k).map f)) :: M1))
    (hs : ∀ x, foldedSetIterable iter X.env x = pure x := by intro _; rfl) : LC X P elt tg iter [c] scope δ M Q := by
  refine lc_lcIf N T ok ?_ hs
  intro σ H F G
  refine (h σ H F G).mono fun J H1 ⟨F1, M1, ds, Sb, s1, S1, wk, hl, hS, hT, hE⟩ => ⟨F1, M1, ds, Sb, s1, S1, wk, fun i acc M' => M' = M1 ∧ acc = ((ds.take i).filter k).map f, ⟨rfl, by simp⟩, fun i acc M' p hi ⟨e1, e2⟩ => by subst e1; exact hS p acc, fun i d acc M' p hd ⟨e1, e2⟩ => ?_, fun acc M' p ⟨e1, e2⟩ => by subst e1 e2; simpa using hE p⟩
  subst e1
  obtain ⟨δ', hb, hB⟩ := hT i d acc p hd
  have hi := (List.getElem?_eq_some_iff.mp hd).1
  refine ⟨δ', hb, fun B => (hB B).imp fun z M2 ⟨e3, e4, e5⟩ => ?_⟩
  subst e3 e4
  have el : acc.length < sizeLine := by
    rw [e2, List.length_map]
    have := List.length_filter_le k (ds.take i)
    rw [List.length_take] at this; omega
  cases hk : k d with
  | false =>
    rw [if_neg (by decide)]
    refine ⟨acc, _, rfl, rfl, ?_⟩
    rw [e2, List.take_succ, hd]; simp [hk]
  | true =>
    rw [if_pos rfl]
    refine fun B => (e5 hk B).imp fun y M3 ⟨e6, e7⟩ => ⟨acc, _, e6, el, rfl, ?_⟩
    rw [e7, e2, List.take_succ, hd]; simp [hk]

theorem we_lc (N : Nice X) (T : Tg X scope tg own bind g) (ok : BlkOk X.N X.env.scope scope own) {Q : D → Cells → Prop}
    (h : WI X P tg iter δ M fun ds Sb M1 => ∃ J : Nat → List D → Cells → Prop, J 0 [] M1 ∧ (∀ i acc M' p, i ≤ ds.length → J i acc M' → Sb ((p, .lst acc) :: M')) ∧
      (∀ i d acc M' p, ds[i]? = some d → J i acc M' → ∃ δ', bind d (wipeD δ (own.map (·.2))) δ' ∧ ∀ B : BK, WE (Bx X scope B) PX0 elt δ' ((p, .lst acc) :: M') fun y M3 => ∃ acc' M4, M3 = (p, .lst acc') :: M4 ∧ acc'.length < sizeLine ∧ J (i + 1) (acc' ++ [y]) M4) ∧
      ∀ acc M' p, J ds.length acc M' → Q (.cel p) ((p, .lst acc) :: M'))
    (hs : ∀ x, foldedSetIterable iter X.env x = pure x := by intro _; rfl) : WE X P (.ListComp elt [⟨tg, iter, [], 0⟩] scope pos) δ M Q := we_ofLC N (lc_lc N T ok h hs)
theorem we_lcIf (N : Nice X) (T : Tg X scope tg own bind g) (ok : BlkOk X.N X.env.scope scope own) {Q : D → Cells → Prop}
    (h : WI X P tg iter δ M fun ds Sb M1 => ∃ J : Nat → List D → Cells → Prop, J 0 [] M1 ∧ (∀ i acc M' p, i ≤ ds.length → J i acc M' → Sb ((p, .lst acc) :: M')) ∧
      (∀ i d acc M' p, ds[i]? = some d → J i acc M' → ∃ δ', bind d (wipeD δ (own.map (·.2))) δ' ∧ ∀ B : BK, WT (Bx X scope B) PX0 c δ' ((p, .lst acc) :: M') fun k M2 =>
        if k = true then ∀ B : BK, WE (Bx X scope B) PX0 elt δ' M2 fun y M3 => ∃ acc' M4, M3 = (p, .lst acc') :: M4 ∧ acc'.length < sizeLine ∧ J (i + 1) (acc' ++ [y]) M4
        else ∃ acc' M4, M2 = (p, .lst acc') :: M4 ∧ J (i + 1) acc' M4) ∧
      ∀ acc M' p, J ds.length acc M' → Q (.cel p) ((p, .lst acc) :: M'))
    (hs : ∀ x, foldedSetIterable iter X.env x = pure x := by intro _; rfl) : WE X P (.ListComp elt [⟨tg, iter, [c], 0⟩] scope pos) δ M Q := we_ofLC N (lc_lcIf N T ok h hs)
theorem we_lcM (f : D → D) (N : Nice X) (T : Tg X scope tg own bind g) (ok : BlkOk X.N X.env.scope scope own) {Q : D → Cells → Prop}
    (h : WI X P tg iter δ M fun ds Sb M1 => ds.length ≤ sizeLine ∧ (∀ p acc, Sb ((p, .lst acc) :: M1)) ∧
      (∀ (i : Nat) d acc p, ds[i]? = some d → ∃ δ', bind d (wipeD δ (own.map (·.2))) δ' ∧ ∀ B : BK, WE (Bx X scope B) PX0 elt δ' ((p, .lst acc) :: M1) fun y M3 => M3 = (p, .lst acc) :: M1 ∧ y = f d) ∧
      ∀ p, Q (.cel p) ((p, .lst (ds.map f)) :: M1))
    (hs : ∀ x, foldedSetIterable iter X.env x = pure x := by intro _; rfl) : WE X P (.ListComp elt [⟨tg, iter, [], 0⟩] scope pos) δ M Q := we_ofLC N (lc_lcM f N T ok h hs)
theorem we_lcF (k : D → Bool) (f : D → D) (N : Nice X) (T : Tg X scope tg own bind g) (ok : BlkOk X.N X.env.scope scope own) {Q : D → Cells → Prop}
    (h : WI X P tg iter δ M fun ds Sb M1 => ds.length ≤ sizeLine ∧ (∀ p acc, Sb ((p, .lst acc) :: M1)) ∧
      (∀ (i : Nat) d acc p, ds[i]? = some d → ∃ δ', bind d (wipeD δ (own.map (·.2))) δ' ∧ ∀ B : BK, WT (Bx X scope B) PX0 c δ' ((p, .lst acc) :: M1) fun z M2 => M2 = (p, .lst acc) :: M1 ∧ z = k d ∧ (k d = true → ∀ B : BK, WE (Bx X scope B) PX0 elt δ' ((p, .lst acc) :: M1) fun y M3 => M3 = (p, .lst acc) :: M1 ∧ y = f d)) ∧
      ∀ p, Q (.cel p) ((p, .lst ((ds.filter k).map f)) :: M1))
    (hs : ∀ x, foldedSetIterable iter X.env x = pure x := by intro _; rfl) : WE X P (.ListComp elt [⟨tg, iter, [c], 0⟩] scope pos) δ M Q := we_ofLC N (lc_lcF k f N T ok h hs)
theorem we_append {Q : D → Cells → Prop} (h : WE X P o δ M fun x M1 => ∃ q, x = .cel q ∧ (∃ (k : Nat) (ds : List D), M1[k]? = some (q, .lst ds)) ∧ WA X P [e] δ M1 fun ys M2 => ∃ (y : D) (k : Nat) (ds : List D), ys = [y] ∧ M2[k]? = some (q, .lst ds) ∧ ds.length < sizeLine ∧ Q .non (M2.set k (q, .lst (ds ++ [y]))))
    (hbase : attributeBase o "append" X.env (eval o X.env) = eval o X.env := by rfl)
    (hfew : ((backTo cpos (starEach [e] X.env)).all (fun x => !x.1) && (backToKw cpos (keywordEach [] X.env)).all (fun x => x.1.isSome)
      && decide (([e] : List Expr).length + ([] : List Keyword).length + (if ([] : List Keyword).isEmpty then 0 else 1) < 30)) = true := by rfl)
    (hline : (apos.endLine == cpos.line) = true := by rfl) (hs : starEach [e] X.env = (false, eval e X.env) :: starEach [] X.env := by rfl) (hplain : (backTo cpos (starEach [] X.env)).any (·.1) = false := by rfl) :
    WE X P (.Call (.Attribute o "append" apos) [e] [] cpos) δ M Q :=
  we_of (pe_bm PySem.F.plainAttrs_list PySem.F.slot_list_append PySem.F.type_list_append mt_append pe_sem pa_sem hbase hfew hline hs hplain) fun σ H F G => h.go G fun v H1 F1 M1 x s1 G1 r1 q1 => by
    obtain ⟨q, rfl, ⟨k0, ds0, hk0⟩, q1⟩ := q1
    cases r1
    obtain ⟨vs0, e0, _⟩ := G1.st.cellAt (List.mem_of_getElem? hk0)
    refine ⟨.inl ⟨rfl, vs0, .of e0⟩, q1.go G1 fun ws H2 F2 M2 ys s2 G2 r2 q2 => ?_⟩
    obtain ⟨y, k, ds, rfl, hk, hl, hq⟩ := q2
    obtain ⟨w, rfl, rw'⟩ := r2.one
    obtain ⟨vs, e1, e2, e3⟩ := G2.st.cellAt (List.mem_of_getElem? hk)
    refine ⟨q, vs, w, rfl, rfl, e1, by rw [e3.length]; exact hl, ?_⟩
    exact ret (G2.st.setCell (c' := .lst (ds ++ [y])) hk ⟨vs ++ [w], upd_same, e3.append (.cons rw' .nil)⟩) (s1.trans s2) .non hq
theorem we_pop {Q : D → Cells → Prop} (h : WE X P o δ M fun x M1 => ∃ (q : Addr) (k : Nat) (ds : List D) (y : D), x = .cel q ∧ M1[k]? = some (q, .lst ds) ∧ ds[ds.length - 1]? = some y ∧ Q y (M1.set k (q, .lst ds.dropLast)))
    (hbase : attributeBase o "pop" X.env (eval o X.env) = eval o X.env := by rfl) (hline : (apos.endLine == cpos.line) = true := by rfl) : WE X P (.Call (.Attribute o "pop" apos) [] [] cpos) δ M Q :=
  we_of (pe_bm0 PySem.F.plainAttrs_list PySem.F.slot_list_pop PySem.F.type_list_pop mt_pop pe_sem hbase hline) fun σ H F G => h.go G fun v H1 F1 M1 x s1 G1 r1 q1 => by
    obtain ⟨q, k, ds, y, rfl, hk, hy, hq⟩ := q1
    cases r1
    obtain ⟨vs, e1, e2, e3⟩ := G1.st.cellAt (List.mem_of_getElem? hk)
    obtain ⟨w, hw, rw'⟩ := e3.get hy
    refine ⟨.inl ⟨rfl, vs, .of e1⟩, q, vs, w, rfl, rfl, e1, by rw [e3.length]; exact hw, ?_⟩
    refine ret (G1.st.setCell (c' := .lst ds.dropLast) hk ⟨vs.dropLast, upd_same, ?_⟩) s1 rw' hq
    have := e3.take (vs.length - 1)
    rw [List.dropLast_eq_take, List.dropLast_eq_take, ← e3.length]; exact this
theorem we_extend {Q : D → Cells → Prop} (h : WE X P o δ M fun x M1 => ∃ q, x = .cel q ∧ (∃ (k : Nat) (ds : List D), M1[k]? = some (q, .lst ds)) ∧ WA X P [e] δ M1 fun ys M2 => ∃ (b : Addr) (k : Nat) (ds : List D) (j : Nat) (es : List D), ys = [.cel b] ∧ M2[k]? = some (q, .lst ds) ∧ M2[j]? = some (b, .lst es) ∧ ds.length + es.length ≤ sizeLine ∧ Q .non (M2.set k (q, .lst (ds ++ es))))
    (hbase : attributeBase o "extend" X.env (eval o X.env) = eval o X.env := by rfl)
    (hfew : ((backTo cpos (starEach [e] X.env)).all (fun x => !x.1) && (backToKw cpos (keywordEach [] X.env)).all (fun x => x.1.isSome)
      && decide (([e] : List Expr).length + ([] : List Keyword).length + (if ([] : List Keyword).isEmpty then 0 else 1) < 30)) = true := by rfl)
    (hline : (apos.endLine == cpos.line) = true := by rfl) (hs : starEach [e] X.env = (false, eval e X.env) :: starEach [] X.env := by rfl) (hplain : (backTo cpos (starEach [] X.env)).any (·.1) = false := by rfl) :
    WE X P (.Call (.Attribute o "extend" apos) [e] [] cpos) δ M Q :=
  we_of (pe_bm PySem.F.plainAttrs_list PySem.F.slot_list_extend PySem.F.type_list_extend mt_extend pe_sem pa_sem hbase hfew hline hs hplain) fun σ H F G => h.go G fun v H1 F1 M1 x s1 G1 r1 q1 => by
    obtain ⟨q, rfl, ⟨k0, ds0, hk0⟩, q1⟩ := q1
    cases r1
    obtain ⟨vs0, e0, _⟩ := G1.st.cellAt (List.mem_of_getElem? hk0)
    refine ⟨.inl ⟨rfl, vs0, .of e0⟩, q1.go G1 fun ws H2 F2 M2 ys s2 G2 r2 q2 => ?_⟩
    obtain ⟨b, k, ds, j, es, rfl, hk, hj, hl, hq⟩ := q2
    obtain ⟨w, rfl, rw'⟩ := r2.one
    cases rw'
    obtain ⟨vs, e1, e2, e3⟩ := G2.st.cellAt (List.mem_of_getElem? hk)
    obtain ⟨us, f1, f2, f3⟩ := G2.st.cellAt (List.mem_of_getElem? hj)
    refine ⟨q, b, vs, us, rfl, rfl, e1, f1, by rw [e3.length, f3.length]; exact hl, ?_⟩
    exact ret (G2.st.setCell (c' := .lst (ds ++ es)) hk ⟨vs ++ us, upd_same, e3.append f3⟩) (s1.trans s2) .non hq
end

abbrev TSp := List D → Cells → (D → Cells → Prop) → (Ex → Cells → Prop) → Prop
def spG (K : PySem.W.Frag) (T : TSp) : Sp := fun vs H Q E => ∃ F M ds, Stt K F M [] [] H ∧ Reps K F vs ds ∧
  T ds M (fun d M' => ∀ v F' H', Same F F' → Stt K F' M' [] [] H' → Rep K F' v d → Q v H') (fun x M' => ∀ cls d F' H', Same F F' → Stt K F' M' [] [] H' → ExIs K F' H' cls d x → E cls d H')
def startD (N : List Str) (ds : List D) : Slots := ds.map some ++ List.replicate (N.length - ds.length) none
theorem Stt.start {K : PySem.W.Frag} {F : Hp} {M : Cells} {H : Hp} (S : Stt K F M [] [] H) {N : List Str} {vs : List V} {ds : List D} (r : Reps K F vs ds) : Stt K F M (startD N ds) (L2.start N vs) H := by
  refine S.slots (by simp [startD, L2.start, r.length]) fun i d h => ?_
  unfold startD at h
  by_cases hi : i < ds.length
  · rw [List.getElem?_append_left (by simpa using hi), List.getElem?_map] at h
    cases e : ds[i]? with
    | none => rw [e] at h; cases h
    | some z =>
      rw [e] at h
      obtain ⟨v, h1, h2⟩ := r.get e
      cases h
      refine ⟨v, ?_, h2⟩
      unfold L2.start
      rw [List.getElem?_append_left (by simpa [r.length] using hi), List.getElem?_map, h1]; rfl
  · rw [List.getElem?_append_right (by simpa using hi), List.getElem?_replicate] at h
    split at h <;> cases h
theorem Stt.bare {K : PySem.W.Frag} {F : Hp} {M : Cells} {δ : Slots} {σ : L2.St} {H : Hp} (S : Stt K F M δ σ H) : Stt K F M [] [] H := S.slots rfl fun i d h => by simp at h
/-- the answer's wish may be weakened -/
def Mono (T : TSp) : Prop := ∀ ds M Q Q' E E', (∀ d M', Q d M' → Q' d M') → (∀ x M', E x M' → E' x M') → T ds M Q E → T ds M Q' E'
/-- a def known by its name -/
structure FD (P : Program) (w : World) (K : PySem.W.Frag) (mg : Str → Option Value) (base : Heap) (k : Nat) (x : Str) (n : Nat) (T : TSp) : Prop where
  mono : Mono T
  ex : ∃ f fd ps, mg x = some (.ref f) ∧ PySem.W.keepIn K (.ref f) = true ∧ ps.length = n ∧ Binds K fd ps [] ∧ FnOk P w K mg base (L2.CX P w) k f fd ps (spG K T)
section
variable {P : Program} {w : World} {K : PySem.W.Frag} {mg : Str → Option Value} {base : Heap}
theorem FD.le {j k n : Nat} {x : Str} {T : TSp} (F : FD P w K mg base j x n T) (h : j ≤ k) : FD P w K mg base k x n T := let ⟨f, fd, ps, h1, h2, h0, h3, h4⟩ := F.ex; ⟨F.mono, f, fd, ps, h1, h2, h0, h3, h4.mono h⟩
abbrev cxF (P : Program) (w : World) (K : PySem.W.Frag) (mg : Str → Option Value) (base : Heap) (N : List Str) (qual : Str) (st : Stmt) (f : Addr) (cdv : Value) (A : Around) (outer : List Env) (s : Shared) (H : Hp) (E : XK) : Cx := cxOf (L2.CX P w) P w K mg base N qual (defScope st) f cdv A outer s H E
/-- THE RULE for a def -/
theorem fn_ok {x qual : Str} {st : Stmt} {f : Addr} {fd : FuncData} {N ps : List Str} {k n : Nat} {T : TSp} (Fn : L2.Fun K x qual st f fd) (S : FnScope N ps (defScope st)) (hn : ps.length = n) (len : ∀ ds M Q E, T ds M Q E → ds.length = n)
    (body : ∀ (cdv : Value) (A : Around) (outer : List Env) (s : Shared) (H : Hp) (E : XK), Nice (cxF P w K mg base N qual st f cdv A outer s H E) → Room k (cxF P w K mg base N qual st f cdv A outer s H E).A →
      ∀ ds M (Q : D → Cells → Prop) (X' : Ex → Cells → Prop), T ds M Q X' → WB (cxF P w K mg base N qual st f cdv A outer s H E) (fun x _ M' => X' x M') (defBody st) (startD N ds) M { nx := fun _ M' => Q .non M', rt := Q }) :
    FnOk P w K mg base (L2.CX P w) (k + 1) f fd ps (spG K T) := by
  refine Fn.okX S (fun vs H Q E ⟨F, M, ds, S', r, t⟩ => by rw [r.length, len _ _ _ _ t, hn]) fun cdv A outer s H vs Q E hr h => ?_
  obtain ⟨F, M, ds, S0, r, t⟩ := h
  have tk := takes_of (X := cxF P w K mg base N qual st f cdv A outer s H E) (E := E) rfl rfl rfl rfl
  have N0 : Nice (cxF P w K mg base N qual st f cdv A outer s H E) := ⟨rfl, S.nd, passes_of rfl⟩
  refine ⟨_, pss_sem, (body cdv A outer s H E N0 hr ds M _ _ t _ H F ⟨S0.start r, _, tk, fun cls d σ' H' ⟨F', M', δ', x, s', S', hx, q⟩ => q cls d F' H' s' S'.bare hx⟩).mono ⟨?_, ?_, fun _ _ ⟨_, _, _, _, _, q⟩ => q.elim, fun _ _ ⟨_, _, _, _, _, q⟩ => q.elim⟩⟩
  · rintro σ' H' ⟨F', M', δ', s', S', q⟩
    exact q .non F' H' s' S'.bare .non
  · rintro v H' ⟨F', M', δ', σ', d, s', S', r', q⟩
    exact q v F' H' s' S'.bare r'
theorem fd_ok {x qual : Str} {st : Stmt} {f : Addr} {fd : FuncData} {ps : List Str} {k n : Nat} {T : TSp} (Fn : L2.Fun K x qual st f fd) (hm : mg x = some (.ref f)) (hn : ps.length = n) (hb : Binds K fd ps []) (mono : Mono T) (h : FnOk P w K mg base (L2.CX P w) k f fd ps (spG K T)) : FD P w K mg base k x n T := ⟨mono, f, fd, ps, hm, Fn.kp, hn, hb, h⟩
end
section
variable {X : Cx} {P : XP} {F : Hp} {M : Cells} {δ : Slots} {σ : L2.St} {H : Hp} {e a b c o : Expr} {es : List Expr} {pos apos cpos p p2 : Pos}
/-- f(e, ..) -/
theorem we_call {x : Str} {k n : Nat} {T : TSp} {Q : D → Cells → Prop} (c : FD X.prog X.w X.K X.mg X.base k x n T) (hr : Room k X.A) (hg : Gl X x) (h : WA X P (e :: es) δ M fun ds M1 => T ds M1 Q (fun x M' => P x δ M'))
    (hdb : (x == ("__debug__" : Str)) = false := by decide) (he : starEach (e :: es) X.env = (false, eval e X.env) :: starEach es X.env := by rfl) (hpl : (backTo pos (starEach es X.env)).any (·.1) = false := by rfl) : WE X P (.Call (.Name x p) (e :: es) [] pos) δ M Q := by
  obtain ⟨f, fd, ps, hm, hk, hn, hb, Fo⟩ := c.ex
  intro σ H F G
  obtain ⟨W, tw, hw⟩ := G.tk
  intro pins s I
  refine (pe_callS Fo hr hg hm hk hb (E := fun σ cls d H => W cls d σ H) (fun σ => passAt tw σ) pa_sem hdb he hpl).run pins s σ H _ I ?_
  refine h.go G fun vs H1 F1 M1 ds s1 G1 r1 q1 => ⟨F1, M1, ds, G1.st.bare, r1, c.mono _ _ _ _ _ _ (fun d M' q v F' H' s' S' r' => ?_) (fun y M' q cls d F' H' s' S' hx => ?_) q1⟩
  · exact ret (S'.keep G1.st s') (s1.trans s') r' q
  · exact hw cls d σ H' ⟨F', M', δ, y, s1.trans s', S'.keep G1.st s', hx, q⟩
end
end PW
/-! PW6 -/
namespace PW
open PySem L2 PyProof.Rows
theorem iteD {p : Prop} [Decidable p] {A B : Prop} (h1 : p → A) (h2 : ¬ p → B) : if decide p = true then A else B := by
  by_cases h : p
  · rw [if_pos (decide_eq_true h)]; exact h1 h
  · rw [if_neg (by rw [decide_eq_false h]; decide)]; exact h2 h
theorem iteN {p : Prop} [Decidable p] {A B : Prop} (h1 : ¬ p → A) (h2 : p → B) : if (!decide p) = true then A else B := by
  by_cases h : p
  · rw [if_neg (by rw [decide_eq_true h]; decide)]; exact h2 h
  · rw [if_pos (by rw [decide_eq_false h]; rfl)]; exact h1 h
theorem iteB {b : Bool} {A B : Prop} (h1 : b = true → A) (h2 : b = false → B) : if b = true then A else B := by
  cases b with
  | true => rw [if_pos rfl]; exact h1 rfl
  | false => rw [if_neg (by decide)]; exact h2 rfl
theorem iteBn {b : Bool} {A B : Prop} (h1 : b = false → A) (h2 : b = true → B) : if (!b) = true then A else B := by
  cases b with
  | true => rw [if_neg (by decide)]; exact h2 rfl
  | false => exact (if_pos (show (!false) = true from rfl)).symm ▸ h1 rfl
theorem iteT' {A B : Prop} (h : A) : if true = true then A else B := by rw [if_pos rfl]; exact h
theorem iteF' {A B : Prop} (h : B) : if false = true then A else B := by rw [if_neg (by decide)]; exact h
section
variable {X : Cx} {P : XP} {F : Hp} {M : Cells} {δ : Slots} {σ : L2.St} {H : Hp} {e a b c o : Expr} {es : List Expr} {pos apos cpos p p2 : Pos}
theorem we_globI {x : Str} {i : Int} {Q : D → Cells → Prop} (hg : Gl X x) (hm : ∃ t, X.mg x = some (.int i t)) (h : Q (.int i) M) (hd : (x == ("__debug__" : Str)) = false := by decide) : WE X P (.Name x pos) δ M Q := by
  obtain ⟨t, ht⟩ := hm
  exact we_glob (v := .int i) hg ht ⟨t, rfl⟩ (fun _ _ => .int i) h hd
theorem we_globS {x : Str} {i : Str} {Q : D → Cells → Prop} (hg : Gl X x) (hm : ∃ t, X.mg x = some (.str i t)) (h : Q (.str i) M) (hd : (x == ("__debug__" : Str)) = false := by decide) : WE X P (.Name x pos) δ M Q := by
  obtain ⟨t, ht⟩ := hm
  exact we_glob (v := .str i) hg ht ⟨t, rfl⟩ (fun _ _ => .str i) h hd
/-- what follows an expression, by what is known of its value -/
theorem WE.cut {Q Q' : D → Cells → Prop} (h : WE X P e δ M Q) (k : ∀ d M', Q d M' → Q' d M') : WE X P e δ M Q' := h.imp k
end
theorem set_get {α : Type} {l : List α} {k : Nat} {x y : α} (h : l[k]? = some y) : (l.set k x)[k]? = some x := List.getElem?_set_self (List.getElem?_eq_some_iff.mp h).1
section
variable {X : Cx} {P : XP} {M : Cells} {δ : Slots} {st : Stmt} {rest : List Stmt} {E : En}
/-- a statement, by what holds behind it -/
theorem wb_seq (R : Slots → Cells → Prop) (h : WS X P st δ M { E with nx := R }) (k : ∀ δ' M', R δ' M' → WB X P rest δ' M' E) : WB X P (st :: rest) δ M E :=
  wb_cons (fun σ H F G => (h σ H F G).mono ⟨fun _ _ ⟨F', M', d', s, S, q⟩ => ⟨F', M', d', s, S, k _ _ q⟩, fun _ _ q => q, fun _ _ q => q, fun _ _ q => q⟩)
end
theorem room_le {j k : Nat} {A : Around} (h : Room k A) (l : j ≤ k) : Room j A := h.mono l
theorem log2_lt {i : Int} {n : Nat} (h : i.natAbs < 2 ^ n) (hn : 0 < n) : i.natAbs.log2 < n := by
  by_cases e : i.natAbs = 0
  · rw [e]; simpa using hn
  · exact (Nat.log2_lt e).mpr h
theorem log2_lt_int {i : Int} {n : Nat} (h1 : -(2 ^ n : Int) < i) (h2 : i < 2 ^ n) (hn : 0 < n) : i.natAbs.log2 < n := by
  refine log2_lt ?_ hn
  have e : ((2 ^ n : Nat) : Int) = (2 : Int) ^ n := by norm_cast
  omega
theorem intBits_le {i : Int} {n : Nat} (h : i.natAbs < 2 ^ n) : Builtin.Int.intBits i ≤ n := by
  unfold Builtin.Int.intBits
  split
  · omega
  · rename_i h0
    have : i.natAbs ≠ 0 := by intro z; apply h0; simpa using z
    have := (Nat.log2_lt this).mpr h
    omega
theorem mul_ok {i j : Int} {a b : Nat} (ha : i.natAbs < 2 ^ a) (hb : j.natAbs < 2 ^ b) (h1 : a ≤ 1048576) (h2 : b ≤ 1048576) : IntMulOk i j :=
  IntMulOk.of_bits (by have := intBits_le ha; have e : (2 : Nat) ^ 20 = 1048576 := by decide
                       omega) (by have := intBits_le hb; have e : (2 : Nat) ^ 20 = 1048576 := by decide
                                  omega)
end PW
/-! PWS -/
namespace PW
open PySem L2 PyProof.Rows
abbrev newSet (w : World) : Obj := { cls := .type "set", dict := none, data := .set #[] 0 (.fresh 0 0 (!w.params.followText "set-order")) }
section
variable {P : Program} {w : World} {A : Around} {E : Value → Shared → Prop} {s : Shared}
/-- the state with a new set laid -/
abbrev withSet (w : World) (s : Shared) : Shared := { s with heap := s.heap.push (newSet w) }
/-- set(v) is a new set, filled by set.__init__ -/
theorem call_set1 {v : Value} {Q : Value → Shared → Prop} (G : Shared → Prop) (k : ∀ s2, G s2 → Q (.ref s.heap.objs.size) s2)
    (h : ∀ A', A'.handled = A.handled → wpAny (model P w) A' (Builtin.«set.__init__» ⟨[.ref s.heap.objs.size, v], []⟩) (fun f s2 => f = .done (.ret .none) ∧ G s2) E (withSet w s)) :
    wpAny (model P w) A (call (.type "set") [v]) Q E s := by
  refine wpAny_call (codeAny_of_tree ?_)
  show wpAny _ _ (callAny (.type "set") _) _ _ _
  refine wpAny_pure ⟨Code.quiet_builtin _ (by decide +kernel), codeAny_builtin F.entry_type_call ?_⟩
  rw [Around.under_plain (weight_type_call_type "set" [v] []) rfl]
  have facts := F.called_set
  obtain ⟨cc, rest, mro⟩ := facts.mro
  have mk1 := facts.made
  have mk2 := facts.sub
  have mk3 := facts.notType
  have mk4 := facts.canCreate
  have mk5 := F.typeCall_set_1 v
  repeat (any_goals (first | assumption | wp_step))
  refine codeAny_mono (code_set_led1 v (E := E) (Q₁ := fun obj s₁ => obj = .ref s.heap.objs.size ∧ s₁ = withSet w s) ⟨rfl, rfl⟩) fun r s₁ hr => ?_
  match r, hr with
  | .error e, hr => exact hr
  | .ok (.ret obj), hr =>
    obtain ⟨rfl, rfl⟩ := hr
    have ty : Shared.TypeIs (withSet w s) (.ref s.heap.objs.size) "set" := ⟨_, Heap.get?_push_size _ rfl, rfl⟩
    have i1 := facts.init.lookup
    have i2 := facts.init.bind (.ref s.heap.objs.size)
    repeat (any_goals (first | assumption | wp_step))
    refine codeAny_mono (codeAny_call_builtin (R := wants (fun r s₂ => r = .none ∧ G s₂) E) facts.init.plain F.entry_set_init (check_set_init_1 ty ?_)) fun r₂ s₂ hr₂ => ?_
    · exact thn (h A.in1.in1 rfl) fun f s2 z => by
        obtain ⟨rfl, g⟩ := z
        exact ⟨rfl, g⟩
    · match r₂, hr₂ with
      | .error e, hr₂ => exact hr₂
      | .ok (.ret u), hr₂ =>
        obtain ⟨rfl, g⟩ := hr₂
        repeat (any_goals (first | assumption | wp_step))
        exact k _ g
/-- the new set holds the ints ns, all else stands as before -/
def Filled (w : World) (s : Shared) (ns : List Int) (s2 : Shared) : Prop :=
  ∃ (h' : Heap) (tk c : Nat), s2 = { s with heap := h', toks := tk } ∧ SetR w h' s.heap.objs.size (fun j => decide (j ∈ ns)) c ∧ c ≤ ns.length ∧ ∀ b o, s.heap.get? b = some o → h'.get? b = some o
theorem ints_val {items : Array Value} {ns : List Int} (hit : IntsAre items.toList ns) (i : Nat) (v : Value) (h : items[i]? = some v) : ∃ k t, ns[i]? = some k ∧ v = .int k t := by
  rw [← Array.getElem?_toList] at h
  have lt := (List.getElem?_eq_some_iff.mp h).1
  rw [IntsAre.length hit] at lt
  obtain ⟨t, rfl⟩ := IntsAre.int_at hit i v h
  have e := List.getElem?_eq_getElem lt
  refine ⟨_, t, e, ?_⟩
  rw [List.getD_eq_getElem?_getD, e]
  rfl
theorem fill_list {l : Addr} {items : Array Value} {ns : List Int} (hh : A.handled = none) (hl : s.heap.IsList l items) (hit : IntsAre items.toList ns) (hb : ns.length + 1 < scanBound) :
    wpAny (model P w) A (Builtin.«set.__init__» ⟨[.ref s.heap.objs.size, .ref l], []⟩) (fun f s2 => f = .done (.ret .none) ∧ Filled w s ns s2) E (withSet w s) := by
  have size_eq : items.size = ns.length := by rw [← Array.length_toList]; exact IntsAre.length hit
  -- the set is at S, the walk's own object at S + 1
  have there : (withSet w s).heap.IsList l items := hl.push _
  have l_old : l < s.heap.objs.size := by
    obtain ⟨o, e, _⟩ := hl
    exact Heap.lt_size e
  have grown : (withSet w s).heap.objs.size = s.heap.objs.size + 1 := Heap.size_push ..
  have l_walk : l ≠ (withSet w s).heap.objs.size := by rw [grown]; exact Nat.ne_of_lt (Nat.lt_succ_of_lt l_old)
  have set_at : (withSet w s).heap.get? s.heap.objs.size = some (newSet w) := Heap.get?_push_size _ rfl
  have cl : (Value.type "list" == Value.type "dict") = false := by decide
  have f1 := F.sub_list_set
  have f2 := F.sub_list_frozenset
  have lk : ∃ o, (withSet w s).heap.get? l = some o ∧ o.cls = .type "list" := by
    obtain ⟨o, e1, e2, _⟩ := there
    exact ⟨o, e1, e2⟩
  obtain ⟨⟨oc, od, odt, os⟩, lk1, lk2⟩ := lk
  simp only at lk2
  subst lk2
  unfold Builtin.«set.__init__» noKeywords Builtin.Frozenset.updateFrom
  generalize walker : pyIter = iter
  wp_walk
  subst walker
  refine wpAny_pyIter_list there ?_
  refine wpAny_bind (wpAny_runValue ?_)
  have nin : s.heap.objs.size ∉ [(withSet w s).heap.objs.size, l] := by
    rw [List.mem_cons, List.mem_singleton, grown]
    exact fun z => z.elim (Nat.ne_of_lt (Nat.lt_succ_self _)) fun z => Nat.ne_of_lt l_old z.symm
  refine set_update_ints (Walks.list (by simpa using hh) _ l l_walk items).toS s.heap.objs.size nin ns size_eq hb (ints_val hit) items.size 0 _ (Nat.sub_zero _) (Nat.zero_le _)
    ⟨⟨_, Heap.get?_push_size _ rfl, rfl, rfl⟩, there.push _⟩ ⟨0, Nat.le_refl 0, setR_new_at (Heap.get?_push_of_some _ set_at)⟩ ?_
  rintro ⟨h', gens', drawn', tk', os'⟩ c moved count held
  obtain ⟨keeps, e1, e2, e3, _⟩ := moved
  cases e1
  cases e2
  cases e3
  refine wpAny_pure (wpAny_pure ⟨rfl, h', tk', c, rfl, held, by omega, fun b o e => ?_⟩)
  have lt := Heap.lt_size e
  refine keeps b o ?_ (Heap.get?_push_of_some _ (Heap.get?_push_of_some _ e))
  rw [List.mem_cons, List.mem_singleton, grown]
  exact fun z => z.elim (Nat.ne_of_lt lt) (Nat.ne_of_lt (Nat.lt_succ_of_lt lt))
theorem set_lst {l : Addr} {items : Array Value} (ns : List Int) {Q : Value → Shared → Prop} (hh : A.handled = none) (hl : s.heap.IsList l items) (hit : IntsAre items.toList ns) (hb : ns.length + 1 < scanBound)
    (h : ∀ (h' : Heap) (tk c : Nat), SetR w h' s.heap.objs.size (fun j => decide (j ∈ ns)) c → c ≤ ns.length → (∀ b o, s.heap.get? b = some o → h'.get? b = some o) → Q (.ref s.heap.objs.size) { s with heap := h', toks := tk }) :
    wpAny (model P w) A (call (.type "set") [.ref l]) Q E s :=
  call_set1 (Filled w s ns) (fun s2 ⟨h', tk, c, e, r, n, k⟩ => by rw [e]; exact h h' tk c r n k) fun A' hA => fill_list (hA.trans hh) hl hit hb
end
end PW
namespace PW
open PySem L2 PyProof.Rows
section
variable {X : Cx} {P : XP} {F : Hp} {M : Cells} {δ : Slots} {σ : L2.St} {H : Hp} {e a b c o : Expr} {es : List Expr} {pos apos cpos p p2 q : Pos}
def rSetL (K : PySem.W.Frag) (w : World) : List V → Hp → VK → Prop := fun xs H Q => ∃ (l : Addr) (ns : List Int), xs = [.ref l] ∧ SqL K H l (ns.map V.int) ∧ ns.length ≤ 4000 ∧ ∀ p n, H p = none → n ≤ ns.length → Q (.ref p) (upd H p (SetO w p (fun j => decide (j ∈ ns)) n))
theorem cr_setL (hc : X.calm = true) : CallR X (.type "set") (rSetL X.K X.w) := by
  intro pins s σ H xs us Q I r h
  obtain ⟨l, ns, rfl, hl, hn, q⟩ := h
  rw [Vals.ref1 r]
  obtain ⟨its, rv, pl, hz⟩ := I.list hl
  have hn' : H s.heap.objs.size = none := I.hok.fresh (Nat.le_refl _)
  refine set_lst (P := X.prog) (w := X.w) ns (I.ok.hd hc) pl.isList (by simpa using rv.ints) (by unfold scanBound; omega) fun h' tk c R hc' k => ?_
  exact ⟨.ref s.heap.objs.size, upd H s.heap.objs.size (SetO X.w s.heap.objs.size (fun j => decide (j ∈ ns)) c), I.laid (t' := tk) k (Nat.le_refl _) (setO_new R), rfl, q _ _ hn' hc'⟩
/-- sorted(set(xs)), ints -/
theorem we_sortedSet {Q : D → Cells → Prop} (hc : X.calm = true) (hg : Gl X "sorted") (hm : X.mg "sorted" = none) (hg2 : Gl X "set") (hm2 : X.mg "set" = none)
    (h : WE X P a δ M fun d M1 => ∃ ns : List Int, LV M1 d (ns.map D.int) ∧ ns.length < 64 ∧ ∀ ns' : List Int, ns'.Pairwise (· < ·) → (∀ k, k ∈ ns' ↔ k ∈ ns) → ns'.length ≤ ns.length → Q (.lst (ns'.map D.int)) M1)
    (he2 : starEach [a] X.env = (false, eval a X.env) :: starEach [] X.env := by rfl) (hpl2 : (backTo q (starEach [] X.env)).any (·.1) = false := by rfl)
    (he : starEach [Expr.Call (.Name "set" p2) [a] [] q] X.env = (false, eval (Expr.Call (.Name "set" p2) [a] [] q) X.env) :: starEach [] X.env := by rfl) (hpl : (backTo pos (starEach [] X.env)).any (·.1) = false := by rfl) :
    WE X P (.Call (.Name "sorted" p) [.Call (.Name "set" p2) [a] [] q] [] pos) δ M Q :=
  we_of (pe_callB (cr_sortedSet hc) hg hm (by decide +kernel) (pa_cons (pe_callTy (cr_setL hc) hg2 hm2 (by decide +kernel) (pa_cons pe_sem pa_nil he2) (by decide) (by decide) he2 hpl2) pa_nil he) (by decide) (by decide) he hpl) fun σ H F G =>
    h.go G fun v H1 F1 M1 d s1 G1 r1 q1 => by
      obtain ⟨ns, hl, hn, q1⟩ := q1
      obtain ⟨l, vs, rfl, e1, e2⟩ := G1.st.readL r1 hl
      rw [e2.ints_inv] at e1
      refine ⟨l, ns, rfl, e1, by omega, fun p n hp hle => ?_⟩
      refine ⟨p, _, n, rfl, upd_same, by omega, fun ns' p' h1 h2 h3 hp' => ?_⟩
      obtain ⟨S1, s1'⟩ := G1.st.froz (o := SetO X.w p (fun j => decide (j ∈ ns)) n) hp
      obtain ⟨S2, s2'⟩ := S1.froz (o := .lst (ns'.map V.int)) hp'
      exact ret S2 ((s1.trans s1').trans s2') (.lst (.of upd_same) (Reps.ints _)) (q1 ns' h1 (fun k => by rw [h2 k]; simp) (by omega))
end
end PW
/-! PW7 -/
namespace PW
open PySem L2 PyProof.Rows
section
variable {X : Cx} {P : XP} {F : Hp} {M : Cells} {δ : Slots} {σ : L2.St} {H : Hp} {e a b c o : Expr} {es : List Expr} {pos apos cpos p p2 q : Pos} {kws : List Keyword}
theorem we_bits {Q : D → Cells → Prop} (h : WE X P o δ M fun d M1 => ∃ i, d = .int i ∧ Q (.int (Builtin.Int.intBits i : Nat)) M1)
    (hbase : attributeBase o "bit_length" X.env (eval o X.env) = eval o X.env := by rfl) (hline : (apos.endLine == pos.line) = true := by rfl) : WE X P (.Call (.Attribute o "bit_length" apos) [] [] pos) δ M Q :=
  we_of (pe_bits pe_sem hbase hline) fun σ H F G => h.go G fun v H1 F1 M1 d s1 G1 r1 q1 => by
    obtain ⟨i, rfl, q⟩ := q1
    cases r1
    exact ⟨i, rfl, ret G1.st s1 (.int _) q⟩
def RIx : RD2 := fun d e M Q => (∃ ds i z, LV M d ds ∧ e = .int i ∧ atI ds i = some z ∧ Q z M) ∨ (∃ ds i z, d = .tup ds ∧ e = .int i ∧ atI ds i = some z ∧ Q z M) ∨ (∃ z i c, d = .str z ∧ e = .int i ∧ z.length ≤ sizeLine ∧ atI z.cps.toList i = some c ∧ Q (.str ⟨#[c]⟩) M)
theorem ixR_or {r r' : R2} (h : IxR X r) (h' : IxR X r') : IxR X (fun x y H Q => r x y H Q ∨ r' x y H Q) := h.or h'
theorem we_ix {Q : D → Cells → Prop} (h : WE X P a δ M fun d M1 => WE X P b δ M1 fun e M2 => RIx d e M2 Q) (hs : PlainIx b) : WE X P (.Subscript a b pos) δ M Q :=
  we_of (pe_ix (ixR_or ix_list (ixR_or ix_tup ix_str)) pe_sem pe_sem hs) fun σ H F G => bind2 (fun _ _ z => z) (lift_ixL.or (lift_ixT.or lift_ixS)) h G
def RSl (d : D) (l u : Option Int) (M : Cells) (Q : D → Cells → Prop) : Prop := (∃ ds, LV M d ds ∧ Q (.lst (cutD ds l u)) M) ∨ ∃ z, d = .str z ∧ z.length ≤ sizeLine ∧ Q (.str (cutS z l u)) M
theorem we_sl {lo hi : Option Expr} {Q : D → Cells → Prop} (h : WE X P e δ M fun d M1 => WO X P lo δ M1 fun l M2 => WO X P hi δ M2 fun u M3 => RSl d l u M3 Q) : WE X P (.Subscript e (.Slice lo hi none p2) pos) δ M Q :=
  we_of (pe_slice (SlR.or sl_list sl_str) pe_sem po_sem po_sem) fun σ H F G => h.go G fun v H1 F1 M1 d s1 G1 r1 q1 => (q1 σ H1 F1 G1).mono fun l H2 ⟨F2, M2, s2, S2, q2⟩ => (q2 σ H2 F2 ⟨S2, G1.tk.up s2⟩).mono fun u H3 ⟨F3, M3, s3, S3, q3⟩ => by
    rcases q3 with ⟨ds, h1, q3⟩ | ⟨z, rfl, hz, q3⟩
    · obtain ⟨a, xs, rfl, e1, e2⟩ := S3.readL (r1.up (s2.trans s3)) h1
      refine .inl ⟨a, xs, rfl, e1, fun p hp => ?_⟩
      obtain ⟨S', s'⟩ := S3.froz (o := .lst (cutV xs l u)) hp
      exact ret S' (((s1.trans s2).trans s3).trans s') (.lst (.of upd_same) ((reps_cut e2 l u).up s')) q3
    · cases r1
      exact .inr ⟨z, rfl, hz, ret S3 ((s1.trans s2).trans s3) (.str _) q3⟩
theorem we_str1 {Q : D → Cells → Prop} (hg : Gl X "str") (hm : X.mg "str" = none) (h : WA X P [e] δ M fun ds M1 => (∃ i, ds = [.int i] ∧ i.natAbs.log2 < 1920 ∧ Q (.str (toString i)) M1) ∨ ∃ z, ds = [.str z] ∧ Q (.str z) M1) (he : starEach [e] X.env = (false, eval e X.env) :: starEach [] X.env := by rfl) (hpl : (backTo pos (starEach [] X.env)).any (·.1) = false := by rfl) : WE X P (.Call (.Name "str" p) [e] [] pos) δ M Q :=
  we_callTy (R := fun ds M1 Q => (∃ i, ds = [.int i] ∧ i.natAbs.log2 < 1920 ∧ Q (.str (toString i)) M1) ∨ ∃ z, ds = [.str z] ∧ Q (.str z) M1) (call_str_int.or SkE.call_str_str) (fun k s S r h => by
    rcases h with ⟨i, rfl, hi, q⟩ | ⟨i, rfl, q⟩
    · obtain ⟨v, rfl, r1⟩ := r.one
      cases r1
      exact .inl ⟨i, rfl, hi, k _ _ (ret S s (.str _) q)⟩
    · obtain ⟨v, rfl, r1⟩ := r.one
      cases r1
      exact .inr ⟨i, rfl, k _ _ (ret S s (.str _) q)⟩) hg hm (by decide +kernel) h (by decide) (by decide) he hpl
theorem we_int2 {Q : D → Cells → Prop} (hg : Gl X "int") (hm : X.mg "int" = none) (h : WA X P [e] δ M fun ds M1 => (∃ i, ds = [.int i] ∧ Q (.int i) M1) ∨ (∃ k, ds = [.bl k] ∧ Q (.int (if k then 1 else 0)) M1) ∨ ∃ z n, ds = [.str z] ∧ PySem.intText? z = some n ∧ z.length ≤ 640 ∧ Q (.int n) M1) (he : starEach [e] X.env = (false, eval e X.env) :: starEach [] X.env := by rfl) (hpl : (backTo pos (starEach [] X.env)).any (·.1) = false := by rfl) : WE X P (.Call (.Name "int" p) [e] [] pos) δ M Q :=
  we_callTy (R := fun ds M1 Q => (∃ i, ds = [.int i] ∧ Q (.int i) M1) ∨ (∃ k, ds = [.bl k] ∧ Q (.int (if k then 1 else 0)) M1) ∨ ∃ z n, ds = [.str z] ∧ PySem.intText? z = some n ∧ z.length ≤ 640 ∧ Q (.int n) M1) (call_int1.or call_int_str) (fun k s S r h => by
    rcases h with ⟨i, rfl, q⟩ | ⟨i, rfl, q⟩ | ⟨z, n, rfl, h1, h2, q⟩
    · obtain ⟨v, rfl, r1⟩ := r.one
      cases r1
      exact .inl (.inl ⟨i, rfl, k _ _ (ret S s (.int _) q)⟩)
    · obtain ⟨v, rfl, r1⟩ := r.one
      cases r1
      exact .inl (.inr ⟨i, rfl, k _ _ (ret S s (.int _) q)⟩)
    · obtain ⟨v, rfl, r1⟩ := r.one
      cases r1
      exact .inr ⟨z, n, rfl, h1, h2, k _ _ (ret S s (.int _) q)⟩) hg hm (by decide +kernel) h (by decide) (by decide) he hpl
theorem we_join {Q : D → Cells → Prop} (h : WE X P o δ M fun d M1 => ∃ z, d = .str z ∧ WE X P e δ M1 fun d2 M2 => ∃ ys : List Str, LV M2 d2 (ys.map D.str) ∧ (ys.map (·.length)).sum + ys.length * z.length ≤ 16777216 ∧ Q (.str (Txt.join z ys)) M2)
    (hs : starEach [e] X.env = [(false, eval e X.env)] := by rfl) (hbase : attributeBase o "join" X.env (eval o X.env) = eval o X.env := by rfl) (hline : (apos.endLine == pos.line) = true := by rfl) : WE X P (.Call (.Attribute o "join" apos) [e] [] pos) δ M Q :=
  we_of (pe_join pe_sem pe_sem hs hbase hline) fun σ H F G => h.go G fun v H1 F1 M1 d s1 G1 r1 q1 => by
    obtain ⟨z, rfl, q1⟩ := q1
    cases r1
    refine ⟨⟨z, rfl⟩, q1.go G1 fun u H2 F2 M2 d2 s2 G2 r2 q2 => ?_⟩
    obtain ⟨ys, hl, hz, q⟩ := q2
    obtain ⟨a, xs, rfl, e1, e2⟩ := G2.st.readL r2 hl
    rw [e2.strs_inv] at e1
    exact ⟨z, a, ys, rfl, rfl, .inl e1, hz, ret G2.st (s1.trans s2) (.str _) q⟩
theorem Reps.strs {K : PySem.W.Frag} {F : Hp} : ∀ (ns : List Str), Reps K F (ns.map V.str) (ns.map D.str)
  | [] => .nil
  | n :: ns => .cons (.str n) (Reps.strs ns)
theorem we_split {Q : D → Cells → Prop} (h : WE X P o δ M fun d M1 => ∃ z, d = .str z ∧ WE X P e δ M1 fun d2 M2 => ∃ y : Str, d2 = .str y ∧ (y.length == 0) = false ∧ z.length + 2 ≤ sizeLine ∧ Q (.lst ((Txt.split z y).map D.str)) M2)
    (hs : starEach [e] X.env = [(false, eval e X.env)] := by rfl) (hbase : attributeBase o "split" X.env (eval o X.env) = eval o X.env := by rfl) (hline : (apos.endLine == pos.line) = true := by rfl) : WE X P (.Call (.Attribute o "split" apos) [e] [] pos) δ M Q :=
  we_of (pe_split pe_sem pe_sem hs hbase hline) fun σ H F G => h.go G fun v H1 F1 M1 d s1 G1 r1 q1 => by
    obtain ⟨z, rfl, q1⟩ := q1
    cases r1
    refine ⟨⟨z, rfl⟩, q1.go G1 fun u H2 F2 M2 d2 s2 G2 r2 q2 => ?_⟩
    obtain ⟨y, rfl, hy, hz, q⟩ := q2
    cases r2
    refine ⟨z, y, rfl, rfl, hy, hz, fun p hp => ?_⟩
    obtain ⟨S', s'⟩ := G2.st.froz (o := .lst ((Txt.split z y).map V.str)) hp
    exact ret S' ((s1.trans s2).trans s') (.lst (.of upd_same) (Reps.strs _)) q
theorem reps_dOf {K : PySem.W.Frag} : ∀ {xs : List V} {vs : List V}, Reps K F vs (xs.map dOf) → vs = xs
  | [], _, h => by cases h; rfl
  | x :: xs, _, h => by cases h with | cons a b => rw [scal_rep x a rfl, reps_dOf b]
def RIn (neg : Bool) : RD2 := fun d e M Q => (∃ (x : V) (xs : List V), d = dOf x ∧ (LV M e (xs.map dOf) ∨ e = .tup (xs.map dOf)) ∧ flatV x = true ∧ xs.all flatV = true ∧ Q (.bl (if neg then !inV x xs else inV x xs)) M) ∨
  ∃ (c : Nat) (z : Str), d = .str ⟨#[c]⟩ ∧ e = .str z ∧ Q (.bl (if neg then !decide (c ∈ z.cps.toList) else decide (c ∈ z.cps.toList))) M
theorem lift_in {neg : Bool} : Lift2 X (fun x y H Q => rIn X.K neg x y H Q ∨ ∃ (c : Nat) (z : Str), x = .str ⟨#[c]⟩ ∧ y = .str z ∧ Q (.bl (if neg then !decide (c ∈ z.cps.toList) else decide (c ∈ z.cps.toList))) H) (RIn neg) := fun k s S r1 r2 h => by
  rcases h with ⟨x, xs, rfl, hl, h1, h2, q⟩ | ⟨c, z, rfl, rfl, q⟩
  · obtain ⟨a, vs, rfl, e1, e2⟩ := S.readLT r2 hl
    rw [reps_dOf e2] at e1
    rw [scal_rep x r1 rfl]
    exact .inl ⟨a, xs, rfl, e1, h1, h2, k _ _ (ret S s (.bl _) q)⟩
  · cases r1; cases r2
    exact .inr ⟨c, z, rfl, rfl, k _ _ (ret S s (.bl _) q)⟩
theorem op_inG : OpR X (compareOp .In) (fun x y H Q => rIn X.K false x y H Q ∨ ∃ (c : Nat) (z : Str), x = .str ⟨#[c]⟩ ∧ y = .str z ∧ Q (.bl (if false then !decide (c ∈ z.cps.toList) else decide (c ∈ z.cps.toList))) H) := op_in_seq.or op_in_sign
theorem op_notInG : OpR X (compareOp .NotIn) (fun x y H Q => rIn X.K true x y H Q ∨ ∃ (c : Nat) (z : Str), x = .str ⟨#[c]⟩ ∧ y = .str z ∧ Q (.bl (if true then !decide (c ∈ z.cps.toList) else decide (c ∈ z.cps.toList))) H) := op_notIn_seq.or op_notIn_sign
theorem we_in {Q : D → Cells → Prop} (h : WE X P a δ M fun d M1 => WE X P b δ M1 fun e M2 => RIn false d e M2 Q) (hmk : behindInMarks .In b = false := by rfl) : WE X P (.Compare a [.In] [b] pos) δ M Q := we_cmp op_inG lift_in hmk h
theorem we_notIn {Q : D → Cells → Prop} (h : WE X P a δ M fun d M1 => WE X P b δ M1 fun e M2 => RIn true d e M2 Q) (hmk : behindInMarks .NotIn b = false := by rfl) : WE X P (.Compare a [.NotIn] [b] pos) δ M Q := we_cmp op_notInG lift_in hmk h
theorem wt_in {Q : Bool → Cells → Prop} (h : WE X P a δ M fun d M1 => WE X P b δ M1 fun e M2 => RIn false d e M2 (onB Q)) (hmk : behindInMarks .In b = false := by rfl) : WT X P (.Compare a [.In] [b] pos) δ M Q := wt_cmp op_inG lift_in hmk h
theorem wt_notIn {Q : Bool → Cells → Prop} (h : WE X P a δ M fun d M1 => WE X P b δ M1 fun e M2 => RIn true d e M2 (onB Q)) (hmk : behindInMarks .NotIn b = false := by rfl) : WT X P (.Compare a [.NotIn] [b] pos) δ M Q := wt_cmp op_notInG lift_in hmk h
def REq (neg : Bool) : RD2 := fun d e M Q => RScal neg d e M Q ∨ ∃ p q, PV M d p ∧ PV M e q ∧ SeqAt.shaped p = true ∧ SeqAt.shaped q = true ∧ Q (.bl (if neg then !PyData.eqv p q else PyData.eqv p q)) M
theorem we_eq {Q : D → Cells → Prop} (hu : X.A.units + 64 < cLine) (h : WE X P a δ M fun d M1 => WE X P b δ M1 fun e M2 => REq false d e M2 Q) : WE X P (.Compare a [.Eq] [b] pos) δ M Q := we_cmp (op_eq.or (op_eqD hu)) (lift_eqS.or lift_eqD) (nomark _) h
theorem we_ne {Q : D → Cells → Prop} (hu : X.A.units + 64 < cLine) (h : WE X P a δ M fun d M1 => WE X P b δ M1 fun e M2 => REq true d e M2 Q) : WE X P (.Compare a [.NotEq] [b] pos) δ M Q := we_cmp (op_ne.or (op_neD hu)) (lift_neS.or lift_neD) (nomark _) h
theorem wt_eq {Q : Bool → Cells → Prop} (hu : X.A.units + 64 < cLine) (h : WE X P a δ M fun d M1 => WE X P b δ M1 fun e M2 => REq false d e M2 (onB Q)) : WT X P (.Compare a [.Eq] [b] pos) δ M Q := wt_cmp (op_eq.or (op_eqD hu)) (lift_eqS.or lift_eqD) (nomark _) h
theorem wt_ne {Q : Bool → Cells → Prop} (hu : X.A.units + 64 < cLine) (h : WE X P a δ M fun d M1 => WE X P b δ M1 fun e M2 => REq true d e M2 (onB Q)) : WT X P (.Compare a [.NotEq] [b] pos) δ M Q := wt_cmp (op_ne.or (op_neD hu)) (lift_neS.or lift_neD) (nomark _) h
def tK (X : Cx) (kws : List Keyword) : TA := fun σ H Q => ∀ (pos : Pos) pins s, Inv X pins σ H s → wpAny (model X.prog X.w) X.A (evalAll ((backToKw pos (keywordEach kws X.env)).map (·.2))) (AP X pins σ Q) X.xe s
theorem pk_sem : PK X kws (tK X kws) := ⟨fun pos pins s _ _ _ I h => h pos pins s I⟩
def WK (X : Cx) (P : XP) (kws : List Keyword) (δ : Slots) (M : Cells) (Q : List D → Cells → Prop) : Prop := ∀ σ H F, Go X P F M δ σ H → tK X kws σ H (upA X.K F δ σ Q)
theorem tK.mono {Q Q' : List V → Hp → Prop} (h : tK X kws σ H Q) (k : ∀ v H', Q v H' → Q' v H') : tK X kws σ H Q' := fun pos pins s I => thn (h pos pins s I) fun _ _ ⟨vs, H', I', r, q⟩ => ⟨vs, H', I', r, k _ _ q⟩
theorem wk_nil {Q : List D → Cells → Prop} (h : Q [] M) : WK X P [] δ M Q := fun σ H F G pos pins s I => pk_nil.run pos pins s σ H _ I ⟨F, M, [], Same.refl _, G.st, .nil, h⟩
theorem wk_cons {nm : Option Str} {kpos : Pos} {Q : List D → Cells → Prop} (h : WE X P e δ M fun d M1 => WK X P kws δ M1 fun ds M2 => Q (d :: ds) M2) : WK X P (⟨nm, e, kpos⟩ :: kws) δ M Q := fun σ H F G pos pins s I =>
  (pk_cons pe_sem pk_sem).run pos pins s σ H _ I (h.go G fun v H1 F1 M1 d s1 G1 r1 q1 => (q1 σ H1 F1 G1).mono fun vs H2 ⟨F2, M2, ds, s2, S2, r2, q2⟩ => ⟨F2, M2, d :: ds, s1.trans s2, S2, .cons (r1.up s2) r2, q2⟩)
/-- m positional values, n by keyword, put in the order pi -/
def gp {α : Type} (m n : Nat) (pi : List Nat) (us ws : List α) : List α := if us.length = m ∧ ws.length = n then pi.filterMap ((us ++ ws)[·]?) else []
theorem prd_app {α β : Type} {R : α → β → Prop} : ∀ {a : List α} {b : List β} {c : List α} {d : List β}, Paired R a b → Paired R c d → Paired R (a ++ c) (b ++ d)
  | _, _, _, _, .nil, h => h
  | _, _, _, _, .cons r t, h => .cons r (prd_app t h)
theorem prd_none {α β : Type} {R : α → β → Prop} : ∀ {a : List α} {b : List β} {i : Nat}, Paired R a b → a[i]? = none → b[i]? = none
  | _, _, _, .nil, _ => by simp
  | _, _, 0, .cons r t, h => by simp at h
  | _, _, i + 1, .cons r t, h => by simpa using prd_none (i := i) t (by simpa using h)
theorem prd_some {α β : Type} {R : α → β → Prop} {v : α} : ∀ {a : List α} {b : List β} {i : Nat}, Paired R a b → a[i]? = some v → ∃ u, b[i]? = some u ∧ R v u
  | _, _, _, .nil, h => by simp at h
  | _, _, 0, .cons r t, h => by simp at h; subst h; exact ⟨_, by simp, r⟩
  | _, _, i + 1, .cons r t, h => by obtain ⟨u, h1, h2⟩ := prd_some (i := i) t (by simpa using h); exact ⟨u, by simpa using h1, h2⟩
theorem gp_rel {α β : Type} {R : α → β → Prop} (m n : Nat) (pi : List Nat) {vs zs : List α} {us ws : List β} (r : Paired R vs us) (r2 : Paired R zs ws) : Paired R (gp m n pi vs zs) (gp m n pi us ws) := by
  unfold gp
  rw [r.length, r2.length]
  split
  · have ra := prd_app r r2
    induction pi with
    | nil => exact .nil
    | cons i pi ih =>
      rcases h1 : (vs ++ zs)[i]? with _ | v
      · rw [List.filterMap_cons, List.filterMap_cons, h1, prd_none ra h1]
        exact ih
      · obtain ⟨u, h2, hr⟩ := prd_some ra h1
        rw [List.filterMap_cons, List.filterMap_cons, h1, h2]
        exact .cons hr ih
  · exact .nil
theorem gp_reps {K : PySem.W.Frag} (m n : Nat) (pi : List Nat) : ∀ {vs zs : List V} {ds es : List D}, Reps K F vs ds → Reps K F zs es → Reps K F (gp m n pi vs zs) (gp m n pi ds es) := fun {vs zs ds es} r r2 => by
  unfold gp
  rw [r.length, r2.length]
  split
  · induction pi with
    | nil => exact .nil
    | cons i pi ih =>
      have ra := r.append r2
      rcases h1 : (ds ++ es)[i]? with _ | v
      · have h2 : (vs ++ zs)[i]? = none := by
          rw [List.getElem?_eq_none_iff] at h1 ⊢
          rw [ra.length]; exact h1
        rw [List.filterMap_cons, List.filterMap_cons, h1, h2]
        exact ih
      · obtain ⟨u, h2, hr⟩ := ra.get h1
        rw [List.filterMap_cons, List.filterMap_cons, h1, h2]
        exact .cons hr ih
  · exact .nil
/-- a def known by its name, called with keywords ks behind m positional values -/
structure FDK (P : Program) (w : World) (K : PySem.W.Frag) (mg : Str → Option Value) (base : Heap) (k : Nat) (x : Str) (m : Nat) (ks : List Str) (pi : List Nat) (T : TSp) : Prop where
  mono : Mono T
  ex : ∃ f fd ps, mg x = some (.ref f) ∧ PySem.W.keepIn K (.ref f) = true ∧ KBinds K fd ps ks (gp m ks.length pi) (gp m ks.length pi) ∧ FnOk P w K mg base (L2.CX P w) k f fd ps (spG K T)
theorem run_kwS {CX : CXT} {k : Nat} {f : Addr} {fd : FuncData} {ps ks : List Str} {sp : Sp} {E : L2.St → XK} {g : List Value → List Value → List Value} {gV : List V → List V → List V} {pins : List (Addr × Obj)} {s : Shared} {Q : VK} {us ws : List Value} {vs zs : List V}
    (Fo : FnOk X.prog X.w X.K X.mg X.base CX k f fd ps sp) (hr : Room k X.A) (hb : KBinds X.K fd ps ks g gV) (hx : PassesAt CX X σ (E σ))
    (I : Inv X pins σ H s) (r : Vals vs us) (rz : Vals zs ws) (h : sp (gV vs zs) H Q (E σ)) : wpAny (model X.prog X.w) X.A (call (.ref f) us (ks.zip ws)) (EP X pins σ Q) X.xe s := by
  have r2 := hb.rel r rz
  have hl : (g us ws).length = ps.length := by rw [← r2.length]; exact Fo.len _ _ _ _ h
  refine wpAny_call (codeAny_mono (Fo.run X.A X.stack s H ⟨us, ks.zip ws⟩ (g us ws) (gV vs zs) Q (E σ) hr I.env0 (hb.to s us ws I.kIn hl) r2 h) fun r s' hq => ?_)
  cases r with
  | error e => exact hx pins H s e s' I hq
  | ok fl =>
    cases fl with
    | ret u => exact I.after hq
    | next => exact False.elim hq
    | brk => exact False.elim hq
    | cont => exact False.elim hq
theorem kw_end {f : Addr} {fd : FuncData} {ps ks : List Str} {k : Nat} {m : Nat} {pi : List Nat} {T : TSp} {W : WX} {Q : D → Cells → Prop} {F0 F1 : Hp} {M1 : Cells} {H1 : Hp} {vs zs : List V} {ds es : List D} (mono : Mono T) (tk : ∀ cls d σ' H', upX X.K F0 P cls d σ' H' → W cls d σ' H')
    (s1 : Same F0 F1) (S1 : Stt X.K F1 M1 δ σ H1) (r : Reps X.K F1 vs ds) (r2 : Reps X.K F1 zs es) (q1 : T (gp m ks.length pi ds es) M1 Q (fun x M' => P x δ M')) :
    spG X.K T (gp m ks.length pi vs zs) H1 (upE X.K F0 δ σ Q) (L2.WE W σ) :=
  ⟨F1, M1, _, S1.bare, gp_reps m ks.length pi r r2, mono _ _ _ _ _ _ (fun d M' q v F' H' s' S' r' => ret (S'.keep S1 s') (s1.trans s') r' q)
    (fun y M' q cls d F' H' s' S' hx => tk cls d σ H' ⟨F', M', δ, y, s1.trans s', S'.keep S1 s', hx, q⟩) q1⟩
/-- f(k = e, ..) -/
theorem we_callK0 {x : Str} {k : Nat} {ks : List Str} {pi : List Nat} {T : TSp} {Q : D → Cells → Prop} (c : FDK X.prog X.w X.K X.mg X.base k x 0 ks pi T) (hr : Room k X.A) (hg : Gl X x) (h : WK X P kws δ M fun ds M1 => T (gp 0 ks.length pi [] ds) M1 Q (fun x M' => P x δ M'))
    (hall : (backToKw pos (keywordEach kws X.env)).all (·.1.isSome) = true := by rfl) (hks : (backToKw pos (keywordEach kws X.env)).filterMap (·.1) = ks := by rfl) (hdb : (x == ("__debug__" : Str)) = false := by decide)
    (hpl : ((backTo pos (starEach [] X.env)).any (·.1) || (backToKw pos (keywordEach kws X.env)).any (·.1.isNone)) = false := by rfl) : WE X P (.Call (.Name x p) [] kws pos) δ M Q := by
  obtain ⟨f, fd, ps, hm, hk, hb, Fo⟩ := c.ex
  intro σ H F G
  obtain ⟨W, tw, hw⟩ := G.tk
  intro pins s I
  refine wpAny_Call_Name_kw (ld_glob I hg hm ?_ hdb)
  refine PySem.W.callWith_KW0 (h₀ := X.base) I.ok.mod.kin hk hall (thn (h σ H F G pos pins _ (I.tok _)) fun ws s2 ⟨zs, H2, I2, rz, F1, M1, ds, s1, S1, r1, q1⟩ => ⟨I2.kIn, ?_⟩) hpl
  rw [hks]
  exact run_kwS (us := []) (vs := []) Fo hr hb (passAt tw σ) I2 .nil rz (kw_end (f := f) (fd := fd) (ps := ps) (k := k) c.mono hw s1 S1 .nil r1 q1)
/-- f(e, .., k = e, ..) -/
theorem we_callK {x : Str} {k m : Nat} {ks : List Str} {pi : List Nat} {T : TSp} {Q : D → Cells → Prop} (c : FDK X.prog X.w X.K X.mg X.base k x m ks pi T) (hr : Room k X.A) (hg : Gl X x) (h : WA X P (e :: es) δ M fun ds M1 => WK X P kws δ M1 fun es M2 => T (gp m ks.length pi ds es) M2 Q (fun x M' => P x δ M'))
    (hall : (backToKw pos (keywordEach kws X.env)).all (·.1.isSome) = true := by rfl) (hks : (backToKw pos (keywordEach kws X.env)).filterMap (·.1) = ks := by rfl) (hdb : (x == ("__debug__" : Str)) = false := by decide)
    (he : starEach (e :: es) X.env = (false, eval e X.env) :: starEach es X.env := by rfl) (hpl : ((backTo pos (starEach (e :: es) X.env)).any (·.1) || (backToKw pos (keywordEach kws X.env)).any (·.1.isNone)) = false := by rfl) : WE X P (.Call (.Name x p) (e :: es) kws pos) δ M Q := by
  obtain ⟨f, fd, ps, hm, hk, hb, Fo⟩ := c.ex
  intro σ H F G
  obtain ⟨W, tw, hw⟩ := G.tk
  intro pins s I
  refine wpAny_Call_Name_kw (ld_glob I hg hm ?_ hdb)
  refine PySem.W.callWith_KW (h₀ := X.base) I.ok.mod.kin hk hall (thn (h σ H F G pos pins _ (I.tok _)) fun us s0 ⟨vs, H0, I0, r, F0, M0, ds, s0', S0, r0, q0⟩ => ?_) hpl he
  refine thn (q0 σ H0 F0 ⟨S0, G.tk.up s0'⟩ pos pins s0 I0) fun ws s2 ⟨zs, H2, I2, rz, F1, M1, es', s1, S1, r1, q1⟩ => ⟨I2.kIn, ?_⟩
  rw [hks]
  exact run_kwS Fo hr hb (passAt tw σ) I2 r rz (kw_end (f := f) (fd := fd) (ps := ps) (k := k) c.mono hw (s0'.trans s1) S1 (r0.up s1) r1 q1)
end
section
variable {P : Program} {w : World} {K : PySem.W.Frag} {mg : Str → Option Value} {base : Heap}
theorem gp_len {α : Type} {m n : Nat} {pi : List Nat} {us ws : List α} (h : gp m n pi us ws ≠ []) : us.length = m ∧ ws.length = n := by
  unfold gp at h
  split at h
  · assumption
  · exact absurd rfl h
/-- a def by its name, called with keywords -/
theorem fdk_ok {x qual : Str} {st : Stmt} {f : Addr} {fd : FuncData} {ps ks : List Str} {k m : Nat} {pi : List Nat} {T : TSp} (Fn : L2.Fun K x qual st f fd) (hm : mg x = some (.ref f)) (hp : ps ≠ [])
    (hb : ∀ (kV doc pm : Value) (an : Option Addr) (cdv ct : Value) (us ws : List Value), us.length = m → ws.length = ks.length → bindArgs (PySem.W.fnOf x qual (defArgs st) (defBody st) (defScope st) .none kV doc pm an cdv ct) ⟨us, ks.zip ws⟩ = pure (ps.zip (gp m ks.length pi us ws)))
    (mono : Mono T) (h : FnOk P w K mg base (L2.CX P w) k f fd ps (spG K T)) : FDK P w K mg base k x m ks pi T := by
  refine ⟨mono, f, fd, ps, hm, Fn.kp, ⟨fun s us ws X hl => ?_, fun r r2 => gp_rel m ks.length pi r r2⟩, h⟩
  obtain ⟨oc, od, kV, doc, pm, an, cdv, ct, osl, rfl, lk, hcd⟩ := Fn.ex
  have e : gp m ks.length pi us ws ≠ [] := fun z => by
    rw [z] at hl
    cases ps with
    | nil => exact hp rfl
    | cons _ _ => simp at hl
  exact .of_eq (hb kV doc pm an cdv ct us ws (gp_len e).1 (gp_len e).2)
end
end PW
/-! PW8 -/
namespace PW
open PySem L2 PyProof.Rows
section
variable {M : Cells} {Q : D → Cells → Prop} {d : D} {ds : List D} {z : D}
theorem iteP {b : Bool} {A B : Prop} (hb : b = true) (h : A) : if b = true then A else B := by rw [if_pos hb]; exact h
theorem iteQ {b : Bool} {A B : Prop} (hb : b = false) (h : B) : if b = true then A else B := by rw [if_neg (by rw [hb]; decide)]; exact h
theorem req_i {i j : Int} (h : Q (.bl (decide (i = j))) M) : REq false (.int i) (.int j) M Q := .inl ⟨.int i, .int j, rfl, rfl, rfl, by
  have e : decide (V.int i = V.int j) = decide (i = j) := by simp
  rw [if_neg (by decide), e]; exact h⟩
theorem req_iN {i j : Int} (h : Q (.bl (!decide (i = j))) M) : REq true (.int i) (.int j) M Q := .inl ⟨.int i, .int j, rfl, rfl, rfl, by
  have e : decide (V.int i = V.int j) = decide (i = j) := by simp
  rw [if_pos rfl, e]; exact h⟩
theorem req_b {i j : Bool} (h : Q (.bl (decide (i = j))) M) : REq false (.bl i) (.bl j) M Q := .inl ⟨.bl i, .bl j, rfl, rfl, rfl, by
  have e : decide (V.bl i = V.bl j) = decide (i = j) := by simp
  rw [if_neg (by decide), e]; exact h⟩
theorem req_bN {i j : Bool} (h : Q (.bl (!decide (i = j))) M) : REq true (.bl i) (.bl j) M Q := .inl ⟨.bl i, .bl j, rfl, rfl, rfl, by
  have e : decide (V.bl i = V.bl j) = decide (i = j) := by simp
  rw [if_pos rfl, e]; exact h⟩
theorem req_s {i j : Str} (h : Q (.bl (decide (i = j))) M) : REq false (.str i) (.str j) M Q := .inl ⟨.str i, .str j, rfl, rfl, rfl, by
  have e : decide (V.str i = V.str j) = decide (i = j) := by simp
  rw [if_neg (by decide), e]; exact h⟩
theorem req_sN {i j : Str} (h : Q (.bl (!decide (i = j))) M) : REq true (.str i) (.str j) M Q := .inl ⟨.str i, .str j, rfl, rfl, rfl, by
  have e : decide (V.str i = V.str j) = decide (i = j) := by simp
  rw [if_pos rfl, e]; exact h⟩
theorem req_n (h : Q (.bl true) M) : REq false .non .non M Q := .inl ⟨.non, .non, rfl, rfl, rfl, by
  rw [if_neg (by decide), decide_eq_true rfl]; exact h⟩
theorem req_d {d e : D} {p q : PyData} (h1 : PV M d p) (h2 : PV M e q) (s1 : SeqAt.shaped p = true) (s2 : SeqAt.shaped q = true) (h : Q (.bl (PyData.eqv p q)) M) : REq false d e M Q := .inr ⟨p, q, h1, h2, s1, s2, by rw [if_neg (by decide)]; exact h⟩
theorem req_dN {d e : D} {p q : PyData} (h1 : PV M d p) (h2 : PV M e q) (s1 : SeqAt.shaped p = true) (s2 : SeqAt.shaped q = true) (h : Q (.bl (!PyData.eqv p q)) M) : REq true d e M Q := .inr ⟨p, q, h1, h2, s1, s2, by rw [if_pos rfl]; exact h⟩
theorem isi1 {t n : String} {b : Bool} (ht : TyA M d t) (hn : n ∈ ["bool", "int", "str", "tuple", "list", "dict"]) (hb : isT t n = b) (q : Q (.bl b) M) : RIsi [d, .raw (.ty n)] M Q ∨ RIsiT [d, .raw (.ty n)] M Q := .inl ⟨d, t, n, rfl, ht, hn, by rw [hb]; exact q⟩
theorem isi2 {t n m : String} {b : Bool} (ht : TyA M d t) (hn : n ∈ ["bool", "int", "str", "tuple", "list", "dict"]) (hm : m ∈ ["bool", "int", "str", "tuple", "list", "dict"]) (hb : (isT t n || isT t m) = b) (q : Q (.bl b) M) :
    RIsi [d, .tup [.raw (.ty n), .raw (.ty m)]] M Q ∨ RIsiT [d, .tup [.raw (.ty n), .raw (.ty m)]] M Q := .inr ⟨d, t, n, m, rfl, ht, hn, hm, by rw [hb]; exact q⟩
theorem nr_int {i : Int} {A : Prop} (h : A) : (∀ v, D.int i ≠ D.raw v) ∧ A := ⟨fun v e => (by cases e), h⟩
theorem nr_non {A : Prop} (h : A) : (∀ v, D.non ≠ D.raw v) ∧ A := ⟨fun v e => (by cases e), h⟩
theorem nr_tup {A : Prop} (h : A) : (∀ v, D.tup ds ≠ D.raw v) ∧ A := ⟨fun v e => (by cases e), h⟩
def CL (M : Cells) (b : Addr) (R : List D → (List D → Cells) → Prop) : Prop := ∃ (k : Nat) (ds : List D), M[k]? = some (b, .lst ds) ∧ R ds (fun ds' => M.set k (b, .lst ds'))
theorem cl_k {b : Addr} {R : List D → (List D → Cells) → Prop} {k : Nat} {ds : List D} (h : M[k]? = some (b, .lst ds)) (r : R ds (fun ds' => M.set k (b, .lst ds'))) : CL M b R := ⟨k, ds, h, r⟩
theorem cl_set {b : Addr} {R : List D → (List D → Cells) → Prop} {k : Nat} {ds : List D} {c : Addr × Cell} (h : M[k]? = some c) (r : R ds (fun ds' => M.set k (b, .lst ds'))) : CL (M.set k (b, .lst ds)) b R := ⟨k, ds, set_get h, by
  have e : (fun ds' => (M.set k (b, Cell.lst ds)).set k (b, Cell.lst ds')) = fun ds' => M.set k (b, Cell.lst ds') := by funext ds'; exact List.set_set ..
  rw [e]; exact r⟩
theorem cl_0 {b : Addr} {R : List D → (List D → Cells) → Prop} {ds : List D} (r : R ds (fun ds' => (b, .lst ds') :: M)) : CL ((b, .lst ds) :: M) b R := ⟨0, ds, rfl, r⟩
theorem cl_skip {b : Addr} {R : List D → (List D → Cells) → Prop} {p : Addr × Cell} (r : CL M b fun ds f => R ds (fun ds' => p :: f ds')) : CL (p :: M) b R := let ⟨k, ds, h, r⟩ := r; ⟨k + 1, ds, h, r⟩
theorem rix_cl {b : Addr} {i : Int} (h : CL M b fun ds _ => ∃ z, atI ds i = some z ∧ Q z M) : RIx (.cel b) (.int i) M Q := let ⟨k, ds, h1, z, h2, h3⟩ := h; .inl ⟨ds, i, z, .c k h1, rfl, h2, h3⟩
theorem rix_l {i : Int} (h : ∃ z, atI ds i = some z ∧ Q z M) : RIx (.lst ds) (.int i) M Q := let ⟨z, h2, h3⟩ := h; .inl ⟨ds, i, z, .l, rfl, h2, h3⟩
theorem rix_t {i : Int} (h : ∃ z, atI ds i = some z ∧ Q z M) : RIx (.tup ds) (.int i) M Q := let ⟨z, h2, h3⟩ := h; .inr (.inl ⟨ds, i, z, rfl, rfl, h2, h3⟩)
theorem rlen_cl {b : Addr} (h : CL M b fun ds _ => Q (.int ds.length) M) : RLen [.cel b] M Q := let ⟨k, ds, h1, h2⟩ := h; .inl ⟨_, ds, rfl, .c k h1, h2⟩
theorem lv_cl {b : Addr} {R : List D → Prop} (h : CL M b fun ds _ => R ds) : ∃ ds, LV M (.cel b) ds ∧ R ds := let ⟨k, ds, h1, h2⟩ := h; ⟨ds, .c k h1, h2⟩
theorem wgs_cl {b : Addr} {i : Int} {R : Cells → Prop} (h : CL M b fun ds f => ∃ j, ixN ds.length i = some j ∧ R (f (ds.set j d))) :
    ∃ k q ds z j, D.cel b = .cel q ∧ M[k]? = some (q, .lst ds) ∧ D.int i = .int z ∧ ixN ds.length z = some j ∧ R (M.set k (q, .lst (ds.set j d))) := let ⟨k, ds, h1, j, h2, h3⟩ := h; ⟨k, b, ds, i, j, rfl, h1, rfl, h2, h3⟩
theorem app_cl {b : Addr} {y : D} {R : Cells → Prop} (h : CL M b fun ds f => ds.length < sizeLine ∧ R (f (ds ++ [y]))) :
    ∃ (y' : D) (k : Nat) (ds : List D), [y] = [y'] ∧ M[k]? = some (b, .lst ds) ∧ ds.length < sizeLine ∧ R (M.set k (b, .lst (ds ++ [y']))) := let ⟨k, ds, h1, h2, h3⟩ := h; ⟨y, k, ds, rfl, h1, h2, h3⟩
theorem app0_cl {b : Addr} {R : Addr → Prop} (h : CL M b fun _ _ => True) (r : R b) : ∃ q, D.cel b = .cel q ∧ (∃ (k : Nat) (ds : List D), M[k]? = some (q, .lst ds)) ∧ R q := let ⟨k, ds, h1, _⟩ := h; ⟨b, rfl, ⟨k, ds, h1⟩, r⟩
theorem LV.cons {p : Addr × Cell} (h : LV M d ds) : LV (p :: M) d ds := h.elim .inl fun ⟨k, a, h1, h2⟩ => .inr ⟨k + 1, a, h1, h2⟩
theorem LV.ty (h : LV M d ds) : TyA M d "list" := by
  rcases h with rfl | ⟨k, a, rfl, h⟩
  · exact (rfl : "list" = "list")
  · show "list" = "list" ∧ ∃ (k : Nat) (ds : List D), M[k]? = some (a, .lst ds)
    exact ⟨rfl, k, ds, h⟩
def Sq (M : Cells) (d : D) (t : String) (ds : List D) : Prop := (t = "list" ∧ LV M d ds) ∨ (t = "tuple" ∧ d = .tup ds)
theorem Sq.cons {t : String} {p : Addr × Cell} (h : Sq M d t ds) : Sq (p :: M) d t ds := h.elim (fun h => .inl ⟨h.1, h.2.cons⟩) .inr
theorem Sq.ty {t : String} (h : Sq M d t ds) : TyA M d t := by
  rcases h with ⟨rfl, h⟩ | ⟨rfl, rfl⟩
  · exact h.ty
  · exact (rfl : "tuple" = "tuple")
theorem Sq.len {t : String} (h : Sq M d t ds) (q : Q (.int ds.length) M) : RLen [d] M Q := by
  rcases h with ⟨rfl, h⟩ | ⟨rfl, rfl⟩
  · exact .inl ⟨d, ds, rfl, h, q⟩
  · exact .inr (.inl ⟨ds, rfl, q⟩)
theorem Sq.ix {t : String} {i : Int} (h : Sq M d t ds) (hz : atI ds i = some z) (q : Q z M) : RIx d (.int i) M Q := by
  rcases h with ⟨rfl, h⟩ | ⟨rfl, rfl⟩
  · exact .inl ⟨ds, i, z, h, rfl, hz, q⟩
  · exact .inr (.inl ⟨ds, i, z, rfl, rfl, hz, q⟩)
/-- alike, as the laws' own test of it goes -/
inductive Alk (M : Cells) : Nat → D → D → Prop
  | non {n : Nat} : Alk M n .non .non
  | bl {n : Nat} (b : Bool) : Alk M n (.bl b) (.bl b)
  | int {n : Nat} (i : Int) : Alk M n (.int i) (.int i)
  | str {n : Nat} (x : Str) : Alk M n (.str x) (.str x)
  | seq {n : Nat} {d e : D} {t : String} {ds es : List D} (h1 : Sq M d t ds) (h2 : Sq M e t es) (hl : ds.length = es.length) (hz : es.length ≤ 1000000) (h : ∀ (i : Nat) (a b : D), ds[i]? = some a → es[i]? = some b → Alk M n a b) : Alk M (n + 1) d e
theorem Alk.cons {p : Addr × Cell} {n : Nat} {d e : D} (h : Alk M n d e) : Alk (p :: M) n d e := by
  induction h with
  | non => exact .non
  | bl b => exact .bl b
  | int b => exact .int b
  | str b => exact .str b
  | seq h1 h2 hl hz h ih => exact .seq h1.cons h2.cons hl hz fun i a b ha hb => ih i a b ha hb
def TAlk (n : Nat) : TSp := fun ds M Q _ => ∃ d e, ds = [d, e] ∧ Alk M n d e ∧ Q (.bl true) M
theorem TAlk_mono (n : Nat) : Mono (TAlk n) := fun ds M Q Q' E E' h _ ⟨d, e, h1, h2, h3⟩ => ⟨d, e, h1, h2, h _ _ h3⟩
theorem TAlk_len (n : Nat) : ∀ ds M Q E, TAlk n ds M Q E → ds.length = 2 := fun ds M Q E h => by obtain ⟨_, _, rfl, _⟩ := h; rfl
end
section
variable {X : Cx} {P : XP} {F : Hp} {M : Cells} {δ : Slots} {σ : L2.St} {H : Hp} {e a b c o : Expr} {es : List Expr} {pos apos cpos p p2 q : Pos}
theorem wt_lele {Q : Bool → Cells → Prop} (h : WE X P a δ M fun d M1 => WE X P b δ M1 fun e M2 => ∃ i j, d = .int i ∧ e = .int j ∧ if decide (i ≤ j) = true then WE X P c δ M2 fun f M3 => ∃ l, f = .int l ∧ Q (decide (j ≤ l)) M3 else Q false M2)
    (hm : lastMarks [.LtE, .LtE] [b, c] = false := by with_unfolding_all rfl) : WT X P (.Compare a [.LtE, .LtE] [b, c] pos) δ M Q :=
  wt_chain op_le op_le lift_B0 lift_B0 (h.imp fun d M1 q => q.imp fun e M2 ⟨i, j, h1, h2, q⟩ => ⟨i, j, h1, h2, _, rfl, by
    split at q
    · rename_i hc; rw [if_pos hc]; exact q.imp fun f M3 ⟨l, h3, q⟩ => ⟨j, l, h2, h3, _, rfl, q⟩
    · rename_i hc; rw [if_neg hc]; exact ⟨_, rfl, q⟩⟩) hm
theorem wt_lelt {Q : Bool → Cells → Prop} (h : WE X P a δ M fun d M1 => WE X P b δ M1 fun e M2 => ∃ i j, d = .int i ∧ e = .int j ∧ if decide (i ≤ j) = true then WE X P c δ M2 fun f M3 => ∃ l, f = .int l ∧ Q (decide (j < l)) M3 else Q false M2)
    (hm : lastMarks [.LtE, .Lt] [b, c] = false := by with_unfolding_all rfl) : WT X P (.Compare a [.LtE, .Lt] [b, c] pos) δ M Q :=
  wt_chain op_le op_lt lift_B0 lift_B0 (h.imp fun d M1 q => q.imp fun e M2 ⟨i, j, h1, h2, q⟩ => ⟨i, j, h1, h2, _, rfl, by
    split at q
    · rename_i hc; rw [if_pos hc]; exact q.imp fun f M3 ⟨l, h3, q⟩ => ⟨j, l, h2, h3, _, rfl, q⟩
    · rename_i hc; rw [if_neg hc]; exact ⟨_, rfl, q⟩⟩) hm
def strD (z : Str) : List D := z.cps.toList.map fun c => D.str ⟨#[c]⟩
theorem wi_str {tg : Expr} {R : List D → (Cells → Prop) → Cells → Prop} (h : WE X P e δ M fun d M1 => ∃ z, d = .str z ∧ R (strD z) (fun _ => True) M1) : WI X P tg e δ M R :=
  wi_of (pi_str pe_sem) fun σ H F G => h.go G fun v H1 F1 M1 d s1 G1 r1 ⟨z, e, q⟩ => by
    subst e
    cases r1
    refine ⟨z, rfl, F1, M1, strD z, _, s1, G1.st, walkP_of walk_str (by simp [strD]) (fun _ _ _ _ _ _ _ _ => trivial) (fun F' M' δ' σ' H' i x H2 hi s S y => ?_), q⟩
    obtain ⟨rfl, c, hc, rfl⟩ := y
    exact ⟨F', .str ⟨#[c]⟩, Same.refl _, S, by simp [strD, hc], .str _⟩
end
end PW
/-! TxtA -/
namespace PW
open PySem L2 PyProof.Rows TL
abbrev wordI (i : Int) : Str := Str.ofString (toString i)
theorem word_pos (n : Nat) : tl (wordI (n : Int)) = numL n := tl_num n
theorem word_neg (n : Nat) : tl (wordI (Int.negSucc n)) = 45 :: numL (n + 1) := by
  have e1 : (toString (Int.negSucc n) : String) = "-" ++ toString (n + 1) := rfl
  have e2 : tl (Str.ofString (toString (n + 1))) = numL (n + 1) := tl_num (n + 1)
  rw [tl_ofString] at e2
  show tl (Str.ofString (toString (Int.negSucc n))) = _
  rw [tl_ofString, e1, String.toList_append, List.map_append, e2]
  rfl
theorem numL_head : ∀ (n : Nat), 0 < n → ∃ c cs, numL n = c :: cs ∧ c ≠ 48 := by
  intro n
  induction n using Nat.strongRecOn with
  | ind n ih =>
    intro h
    by_cases hn : n < 10
    · rw [numL_lt hn]
      exact ⟨_, _, rfl, by omega⟩
    · obtain ⟨c, cs, e, hc⟩ := ih (n / 10) (by omega) (by omega)
      rw [numL_step (by omega), e]
      exact ⟨c, _, rfl, hc⟩
theorem numL_31 {n : Nat} (h : n ≤ 10 ^ 30) : (numL n).length ≤ 31 := numL_len (by decide) (Nat.lt_of_le_of_lt h (by decide))
theorem numL_pos (n : Nat) : 0 < (numL n).length := List.length_pos_iff.mpr (numL_ne n)
/-- no letter but digits and the sign -/
theorem word_free {i : Int} {k : Nat} (h : k ≠ 45 ∧ (k < 48 ∨ 57 < k)) : k ∉ tl (wordI i) := int_text_free' k h i
theorem word_len {i : Int} (h : i.natAbs ≤ 10 ^ 30) : (wordI i).length ≤ 32 := by
  rw [len_tl]
  cases i with
  | ofNat n => rw [show Int.ofNat n = (n : Int) from rfl, word_pos]; have := numL_31 (n := n) h; omega
  | negSucc n => rw [word_neg, List.length_cons]; have := numL_31 (n := n + 1) h; omega
theorem tl_dash : tl (Str.ofString "-") = [45] := by rw [tl_ofString]; decide
theorem word_ne {i : Int} : wordI i ≠ Str.ofString "-" := fun e => by
  have e' := congrArg tl e
  rw [tl_dash] at e'
  cases i with
  | ofNat n =>
    rw [show Int.ofNat n = (n : Int) from rfl, word_pos] at e'
    have := numL_digits n 45 (by rw [e']; decide)
    omega
  | negSucc n =>
    rw [word_neg] at e'
    have := numL_ne (n + 1)
    injection e' with _ e2
    exact this e2
/-- the figures of a word, and its sign -/
def figs (i : Int) : Str := ⟨(numL i.natAbs).toArray⟩
theorem tl_figs (i : Int) : tl (figs i) = numL i.natAbs := tl_mk _
theorem sIx_lo (n : Nat) : HT.sIx n 0 none = 0 := rfl
theorem sIx_hi (n : Nat) : HT.sIx n n none = n := rfl
theorem cut_head (z : Str) : tl (cutS z none (some 1)) = (tl z).take 1 := by
  unfold cutS
  rw [tl_mk, sIx_lo, List.drop_zero]
  have e : HT.sIx z.length z.length (some 1) = min 1 z.length := by
    show (if (1 : Int) < 0 then ((1 : Int) + (z.length : Int)).toNat else min (1 : Int).toNat z.length) = _
    rw [if_neg (by decide)]; rfl
  rw [e, len_tl]
  show (tl z).take (min 1 (tl z).length - 0) = _
  cases tl z with
  | nil => rfl
  | cons c cs => simp
theorem cut_rest (z : Str) : tl (cutS z (some 1) none) = (tl z).drop 1 := by
  unfold cutS
  rw [tl_mk, sIx_hi]
  have e : HT.sIx z.length 0 (some 1) = min 1 z.length := by
    show (if (1 : Int) < 0 then ((1 : Int) + (z.length : Int)).toNat else min (1 : Int).toNat z.length) = _
    rw [if_neg (by decide)]; rfl
  rw [e, len_tl]
  show List.take _ ((tl z).drop (min 1 (tl z).length)) = _
  cases tl z with
  | nil => rfl
  | cons c cs => simp
theorem str_eq {x y : Str} : x = y ↔ tl x = tl y := ⟨congrArg tl, ext_tl⟩
/-- is the first sign a dash? -/
theorem head_dash (i : Int) : (cutS (wordI i) none (some 1) = Str.ofString "-") ↔ i < 0 := by
  rw [str_eq, cut_head, tl_dash]
  cases i with
  | ofNat n =>
    rw [show Int.ofNat n = (n : Int) from rfl, word_pos]
    obtain ⟨c, cs, e⟩ := List.exists_cons_of_ne_nil (numL_ne n)
    have := numL_digits n c (by rw [e]; simp)
    rw [e]
    simp
    omega
  | negSucc n =>
    rw [word_neg]
    simp
theorem cut_figs {i : Int} (h : i < 0) : cutS (wordI i) (some 1) none = figs i := by
  rw [str_eq, cut_rest, tl_figs]
  cases i with
  | ofNat n => exact absurd h (by simp)
  | negSucc n => rw [word_neg]; rfl
theorem pos_figs {i : Int} (h : ¬ i < 0) : wordI i = figs i := by
  rw [str_eq, tl_figs]
  cases i with
  | ofNat n => exact word_pos n
  | negSucc n => exact absurd (Int.negSucc_lt_zero n) h
theorem figs_len {i : Int} (h : i.natAbs ≤ 10 ^ 30) : 1 ≤ (figs i).length ∧ (figs i).length ≤ 31 := by
  rw [len_tl, tl_figs]
  exact ⟨numL_pos _, numL_31 h⟩
theorem figs_val {i : Int} (h : i.natAbs ≤ 10 ^ 30) : PySem.intText? (figs i) = some (i.natAbs : Int) := by
  have e : figs i = Str.ofString (toString ((i.natAbs : Nat) : Int)) := by rw [str_eq, tl_figs]; exact (tl_num _).symm
  rw [e]
  exact int_num (Nat.le_trans (numL_31 h) (by decide))
theorem digits_tl : tl (Str.ofString "0123456789") = [48, 49, 50, 51, 52, 53, 54, 55, 56, 57] := by rw [tl_ofString]; decide
theorem figs_in {i : Int} {c : Nat} (h : c ∈ (figs i).cps.toList) : c ∈ (Str.ofString "0123456789").cps.toList := by
  have h' : c ∈ tl (figs i) := h
  rw [tl_figs] at h'
  have := numL_digits _ c h'
  show c ∈ tl (Str.ofString "0123456789")
  rw [digits_tl]
  have : c = 48 ∨ c = 49 ∨ c = 50 ∨ c = 51 ∨ c = 52 ∨ c = 53 ∨ c = 54 ∨ c = 55 ∨ c = 56 ∨ c = 57 := by omega
  simpa using this
/-- a nought ahead stands in "0" alone -/
theorem figs_nought {i : Int} {c : Nat} {cs : List Nat} (e : tl (figs i) = c :: cs) (h : (⟨#[c]⟩ : Str) = Str.ofString "0") : i = 0 := by
  rw [tl_figs] at e
  by_cases h0 : i.natAbs = 0
  · omega
  · obtain ⟨c', cs', e', hc⟩ := numL_head i.natAbs (by omega)
    rw [e] at e'
    injection e' with e1 e2
    have h' := congrArg tl h
    rw [tl_ofString] at h'
    have : c = 48 := by
      have h2 : [c] = [48] := h'
      injection h2
    omega
theorem word_zero : wordI 0 = Str.ofString "0" := rfl
end PW
namespace PW
open PySem L2 PyProof.Rows TL
theorem word_val {i : Int} (h : i.natAbs ≤ 10 ^ 30) : PySem.intText? (wordI i) = some i := by
  by_cases h0 : i < 0
  · cases i with
    | ofNat n => exact absurd h0 (by simp)
    | negSucc n =>
      have e := PySem.intText_neg (word_neg n) (numL_digits (n + 1)) (numL_ne (n + 1)) (by have := word_len h; omega)
      rw [e, numL_val]
      rfl
  · rw [pos_figs h0, figs_val h]
    congr 1
    omega
/-- what a word denotes -/
def valD : D → D
  | .str z => match PySem.intText? z with | some n => .int n | none => .non
  | d => d
theorem valD_word {i : Int} (h : i.natAbs ≤ 10 ^ 30) : valD (.str (wordI i)) = .int i := by
  show (match PySem.intText? (wordI i) with | some n => D.int n | none => .non) = _
  rw [word_val h]
theorem dash_val : PySem.intText? (Str.ofString "-") = none := by decide +kernel
theorem valD_dash : valD (.str (Str.ofString "-")) = .non := by
  show (match PySem.intText? (Str.ofString "-") with | some n => D.int n | none => .non) = _
  rw [dash_val]
def Small (i : Int) : Prop := i.natAbs ≤ 10 ^ 30
/-- a word that is read: of a small integer, or a dash -/
def GoodW (z : Str) : Prop := (∃ i : Int, z = wordI i ∧ Small i) ∨ z = Str.ofString "-"
def optW : Option Int → Str | some i => wordI i | none => Str.ofString "-"
def optD : Option Int → D | some i => .int i | none => .non
theorem optW_good {o : Option Int} (h : ∀ i, o = some i → Small i) : GoodW (optW o) := by
  cases o with
  | none => exact .inr rfl
  | some i => exact .inl ⟨i, rfl, h i rfl⟩
theorem optW_val {o : Option Int} (h : ∀ i, o = some i → Small i) : valD (.str (optW o)) = optD o := by
  cases o with
  | none => exact valD_dash
  | some i => exact valD_word (h i rfl)
theorem optW_len {o : Option Int} (h : ∀ i, o = some i → Small i) : (optW o).length ≤ 32 := by
  cases o with
  | none => exact (by decide)
  | some i => exact word_len (h i rfl)
theorem optW_free {o : Option Int} {k : Nat} (h : k ≠ 45 ∧ (k < 48 ∨ 57 < k)) : k ∉ tl (optW o) := by
  cases o with
  | none => show k ∉ tl (Str.ofString "-"); rw [tl_dash]; simp; exact h.1
  | some i => exact word_free h
def blank : Str := Str.ofString " "
def colon : Str := Str.ofString ":"
theorem tl_blank : tl blank = [32] := by show tl (Str.ofString " ") = _; rw [tl_ofString]; decide
theorem tl_colon : tl colon = [58] := by show tl (Str.ofString ":") = _; rw [tl_ofString]; decide
theorem join_len (y : Str) : ∀ parts : List Str, (∀ p ∈ parts, p.length ≤ 70) → (Txt.join y parts).length ≤ parts.length * (70 + y.length) := by
  intro parts h
  rw [join_eq, len_tl, tl_join, len_tl y]
  generalize tl y = S
  induction parts with
  | nil => simp [joinL]
  | cons p ps ih =>
    have ih := ih fun q hq => h q (List.mem_cons_of_mem _ hq)
    have hp := h p (List.mem_cons_self ..)
    rw [len_tl] at hp
    cases ps with
    | nil => show (tl p).length ≤ 1 * _; omega
    | cons q qs =>
      have e : joinL S ((p :: q :: qs).map tl) = tl p ++ S ++ joinL S ((q :: qs).map tl) := by simp [joinL]
      rw [e, List.length_append, List.length_append, List.length_cons (as := q :: qs)]
      rw [Nat.add_mul]
      omega
theorem blank_split {parts : List Str} (hne : parts ≠ []) (hp : ∀ p ∈ parts, 32 ∉ tl p) : Txt.split (Txt.join blank parts) blank = parts := split_join tl_blank (by decide +kernel) hne hp
def itemW (x v : Int) : Str := wordI x ++ colon ++ wordI v
theorem itemW_eq (x v : Int) : itemW x v = Txt.join colon [wordI x, wordI v] := by
  rw [str_eq, join_eq, tl_join]
  unfold itemW
  rw [tl_append, tl_append]
  simp [joinL]
theorem item_split {x v : Int} : Txt.split (itemW x v) colon = [wordI x, wordI v] := by
  rw [itemW_eq]
  refine split_join tl_colon (by decide +kernel) (by simp) ?_
  intro p hp
  simp at hp
  rcases hp with rfl | rfl <;> exact word_free (by decide)
theorem item_free {x v : Int} : 32 ∉ tl (itemW x v) := by
  unfold itemW
  rw [tl_append, tl_append, tl_colon]
  have h1 : 32 ∉ tl (wordI x) := word_free (by decide)
  have h2 : 32 ∉ tl (wordI v) := word_free (by decide)
  simp only [List.mem_append, List.mem_singleton]
  rintro ((h | h) | h)
  · exact h1 h
  · exact absurd h (by decide)
  · exact h2 h
theorem item_len {x v : Int} (hx : Small x) (hv : Small v) : (itemW x v).length ≤ 65 := by
  have h1 := word_len hx
  have h2 := word_len hv
  unfold itemW
  rw [len_tl, tl_append, tl_append, List.length_append, List.length_append, tl_colon, ← len_tl, ← len_tl]
  simp only [List.length_singleton]
  omega
end PW
namespace PW
open PySem L2 PyProof.Rows TL
local macro_rules | `(tactic| walk_at "lk") => `(tactic| first | assumption | exact set_get (by assumption))
local macro_rules | `(tactic| walk_at "lv") => `(tactic| first | exact LV.l | exact LV.c 0 rfl | exact LV.c 1 rfl | exact LV.c 2 rfl | exact LV.c _ (by walk_at "lk"))
local macro_rules | `(tactic| walk_at "cl") => `(tactic| first | refine cl_set (by assumption) ?_ | refine cl_0 ?_ | (refine cl_skip ?_; walk_at "cl") | refine cl_k (by assumption) ?_)
local macro_rules | `(tactic| walk_at "r") => `(tactic| first | assumption | exact room_le (by assumption) (by decide))
local macro_rules | `(tactic| walk_at "u") => `(tactic| exact Room.units (by assumption))
local macro_rules | `(tactic| walk_at "e") => `(tactic| first
  | ((with_reducible show WE _ _ (Expr.Name _ _) _ _ _); walk_at "n")
  | ((with_reducible show WE _ _ (Expr.Constant (Const.int _) _ _) _ _ _); refine we_int ?_)
  | ((with_reducible show WE _ _ (Expr.Constant (Const.str _) _ _) _ _ _); refine we_str ?_)
  | ((with_reducible show WE _ _ (Expr.Constant (Const.bool _) _ _) _ _ _); refine we_bl ?_)
  | ((with_reducible show WE _ _ (Expr.Constant Const.none _ _) _ _ _); refine we_non ?_)
  | ((with_reducible show WE _ _ (Expr.Call (Expr.Name "len" _) _ _ _) _ _ _); refine we_len rfl (by assumption) ?_)
  | ((with_reducible show WE _ _ (Expr.Call (Expr.Name "int" _) _ _ _) _ _ _); refine we_int2 rfl (by assumption) ?_)
  | ((with_reducible show WE _ _ (Expr.Call (Expr.Name "abs" _) _ _ _) _ _ _); refine we_abs rfl (by assumption) ?_)
  | ((with_reducible show WE _ _ (Expr.Call (Expr.Name "max" _) _ _ _) _ _ _); refine we_max2 rfl rfl (by assumption) ?_)
  | ((with_reducible show WE _ _ (Expr.Call (Expr.Name "min" _) _ _ _) _ _ _); refine we_min2 rfl rfl (by assumption) ?_)
  | ((with_reducible show WE _ _ (Expr.Call (Expr.Name "isinstance" _) _ _ _) _ _ _); refine we_isi rfl (by assumption) ?_)
  | ((with_reducible show WE _ _ (Expr.Call (Expr.Name "str" _) _ _ _) _ _ _); refine we_str1 rfl (by assumption) ?_)
  | ((with_reducible show WE _ _ (Expr.Call (Expr.Name "list" _) _ _ _) _ _ _); refine we_list rfl (by assumption) ?_)
  | ((with_reducible show WE _ _ (Expr.Call (Expr.Name "all" _) _ _ _) _ _ _); refine we_all rfl rfl (by assumption) ?_)
  | ((with_reducible show WE _ _ (Expr.Call (Expr.Name "any" _) _ _ _) _ _ _); refine we_any rfl rfl (by assumption) ?_)
  | ((with_reducible show WE _ _ (Expr.Call (Expr.Name "sum" _) _ _ _) _ _ _); refine we_sum rfl rfl (by assumption) ?_)
  | ((with_reducible show WE _ _ (Expr.Call (Expr.Name "sorted" _) [Expr.Call (Expr.Name "set" _) _ _ _] _ _) _ _ _); refine we_sortedSet rfl rfl (by assumption) rfl (by assumption) ?_)
  | ((with_reducible show WE _ _ (Expr.Call (Expr.Attribute _ "bit_length" _) _ _ _) _ _ _); refine we_bits ?_)
  | ((with_reducible show WE _ _ (Expr.Call (Expr.Attribute _ "join" _) _ _ _) _ _ _); refine we_join ?_)
  | ((with_reducible show WE _ _ (Expr.Call (Expr.Attribute _ "split" _) _ _ _) _ _ _); refine we_split ?_)
  | ((with_reducible show WE _ _ (Expr.Call (Expr.Attribute _ "append" _) _ _ _) _ _ _); refine we_append ?_)
  | ((with_reducible show WE _ _ (Expr.Tuple _ _ _) _ _ _); refine we_tup ?_)
  | ((with_reducible show WE _ _ (Expr.Compare _ [CmpOp.Eq] _ _) _ _ _); refine we_eq (by walk_at "u") ?_)
  | ((with_reducible show WE _ _ (Expr.Compare _ [CmpOp.NotEq] _ _) _ _ _); refine we_ne (by walk_at "u") ?_)
  | ((with_reducible show WE _ _ (Expr.Compare _ [CmpOp.In] _ _) _ _ _); refine we_in ?_)
  | ((with_reducible show WE _ _ (Expr.Compare _ [CmpOp.NotIn] _ _) _ _ _); refine we_notIn ?_)
  | ((with_reducible show WT _ _ (Expr.Compare _ [CmpOp.In] _ _) _ _ _); refine wt_in ?_)
  | ((with_reducible show WT _ _ (Expr.Compare _ [CmpOp.NotIn] _ _) _ _ _); refine wt_notIn ?_)
  | ((with_reducible show WK _ _ [] _ _ _); refine wk_nil ?_)
  | ((with_reducible show WK _ _ (_ :: _) _ _ _); refine wk_cons ?_)
  | ((with_reducible show WE _ _ (Expr.Call (Expr.Name _ _) _ _ _) _ _ _); walk_at "c")
  | ((with_reducible show WE _ _ (Expr.BinOp _ Operator.Sub _ _) _ _ _); refine we_sub ?_)
  | ((with_reducible show WE _ _ (Expr.BinOp _ Operator.Add _ _) _ _ _); refine we_add ?_)
  | ((with_reducible show WE _ _ (Expr.BinOp _ Operator.Mult _ _) _ _ _); refine we_mul ?_)
  | ((with_reducible show WE _ _ (Expr.BinOp _ Operator.Mod _ _) _ _ _); refine we_mod ?_)
  | ((with_reducible show WE _ _ (Expr.BinOp _ Operator.FloorDiv _ _) _ _ _); refine we_fdiv ?_)
  | ((with_reducible show WE _ _ (Expr.BinOp _ Operator.Pow _ _) _ _ _); refine we_pow ?_)
  | ((with_reducible show WE _ _ (Expr.UnaryOp UnaryOp.USub _ _) _ _ _); refine we_neg ?_)
  | ((with_reducible show WE _ _ (Expr.UnaryOp UnaryOp.Not _ _) _ _ _); refine we_not ?_)
  | ((with_reducible show WE _ _ (Expr.IfExp _ _ _ _) _ _ _); refine we_if ?_)
  | ((with_reducible show WE _ _ (Expr.Compare _ [CmpOp.Lt] _ _) _ _ _); refine we_lt ?_)
  | ((with_reducible show WE _ _ (Expr.Compare _ [CmpOp.LtE] _ _) _ _ _); refine we_le ?_)
  | ((with_reducible show WE _ _ (Expr.Compare _ [CmpOp.Gt] _ _) _ _ _); refine we_gt ?_)
  | ((with_reducible show WE _ _ (Expr.Compare _ [CmpOp.GtE] _ _) _ _ _); refine we_ge ?_)
  | ((with_reducible show WE _ _ (Expr.Compare _ [CmpOp.Is] [Expr.Constant Const.none _ _] _) _ _ _); refine we_isN ?_)
  | ((with_reducible show WE _ _ (Expr.Compare _ [CmpOp.IsNot] [Expr.Constant Const.none _ _] _) _ _ _); refine we_notN ?_)
  | ((with_reducible show WE _ _ (Expr.Compare _ [CmpOp.LtE, CmpOp.LtE] _ _) _ _ _); refine we_lele ?_)
  | ((with_reducible show WT _ _ (Expr.Compare _ [CmpOp.LtE, CmpOp.LtE] _ _) _ _ _); refine wt_lele ?_)
  | ((with_reducible show WT _ _ (Expr.Compare _ [CmpOp.LtE, CmpOp.Lt] _ _) _ _ _); refine wt_lelt ?_)
  | ((with_reducible show WT _ _ (Expr.Compare _ [CmpOp.Lt] _ _) _ _ _); refine wt_lt ?_)
  | ((with_reducible show WT _ _ (Expr.Compare _ [CmpOp.LtE] _ _) _ _ _); refine wt_le ?_)
  | ((with_reducible show WT _ _ (Expr.Compare _ [CmpOp.Gt] _ _) _ _ _); refine wt_gt ?_)
  | ((with_reducible show WT _ _ (Expr.Compare _ [CmpOp.GtE] _ _) _ _ _); refine wt_ge ?_)
  | ((with_reducible show WT _ _ (Expr.Compare _ [CmpOp.Eq] _ _) _ _ _); refine wt_eq (by walk_at "u") ?_)
  | ((with_reducible show WT _ _ (Expr.Compare _ [CmpOp.NotEq] _ _) _ _ _); refine wt_ne (by walk_at "u") ?_)
  | ((with_reducible show WE _ _ (Expr.Subscript _ (Expr.Slice _ _ _ _) _) _ _ _); refine we_sl ?_)
  | ((with_reducible show WE _ _ (Expr.Subscript _ _ _) _ _ _); refine we_ix ?_ (fun _ _ => rfl))
  | ((with_reducible show WT _ _ (Expr.Compare _ [CmpOp.Is] [Expr.Constant Const.none _ _] _) _ _ _); refine wt_isN ?_)
  | ((with_reducible show WT _ _ (Expr.Compare _ [CmpOp.IsNot] [Expr.Constant Const.none _ _] _) _ _ _); refine wt_notN ?_)
  | ((with_reducible show WT _ _ (Expr.BoolOp _ _ _) _ _ _); refine ww_wt ?_)
  | ((with_reducible show WT _ _ (Expr.UnaryOp UnaryOp.Not _ _) _ _ _); refine wt_not ?_)
  | ((with_reducible show WT _ _ (Expr.Call _ _ _ _) _ _ _); refine wt_val ?_)
  | ((with_reducible show WT _ _ (Expr.Name _ _) _ _ _); refine wt_val ?_)
  | ((with_reducible show WW _ _ (Expr.BoolOp BoolOp.And [_] _) _ _ _); refine ww_and1 ?_)
  | ((with_reducible show WW _ _ (Expr.BoolOp BoolOp.Or [_] _) _ _ _); refine ww_or1 ?_)
  | ((with_reducible show WW _ _ (Expr.BoolOp BoolOp.And _ _) _ _ _); refine ww_and ?_)
  | ((with_reducible show WW _ _ (Expr.BoolOp BoolOp.Or _ _) _ _ _); refine ww_or ?_)
  | ((with_reducible show WE _ _ (Expr.BoolOp _ [_] _) _ _ _); refine we_one ?_)
  | ((with_reducible show WE _ _ (Expr.BoolOp BoolOp.And _ _) _ _ _); refine we_and ?_)
  | ((with_reducible show WE _ _ (Expr.BoolOp BoolOp.Or _ _) _ _ _); refine we_or ?_)
  | ((with_reducible show WA _ _ [] _ _ _); refine wa_nil ?_)
  | ((with_reducible show WA _ _ (_ :: _) _ _ _); refine wa_cons ?_)
  | ((with_reducible show WO _ _ none _ _ _); refine wo_none ?_)
  | ((with_reducible show WO _ _ (some _) _ _ _); refine wo_some ?_)
  | ((with_reducible show ∃ i j, D.int _ = D.int i ∧ D.int _ = D.int j ∧ _ ∧ _); refine ⟨_, _, rfl, rfl, ?_, ?_⟩)
  | ((with_reducible show ∃ i j, D.int _ = D.int i ∧ D.int _ = D.int j ∧ _); refine ⟨_, _, rfl, rfl, ?_⟩)
  | ((with_reducible show WE _ _ (Expr.List [] _) _ _ (fun e M2 => REq _ _ _ _ _)); refine we_lst ?_)
  | ((with_reducible show REq false (D.int _) (D.int _) _ _); refine req_i ?_)
  | ((with_reducible show REq true (D.int _) (D.int _) _ _); refine req_iN ?_)
  | ((with_reducible show REq false (D.str _) (D.str _) _ _); refine req_s ?_)
  | ((with_reducible show REq true (D.str _) (D.str _) _ _); refine req_sN ?_)
  | ((with_reducible show REq false (D.bl _) (D.bl _) _ _); refine req_b ?_)
  | ((with_reducible show REq true (D.bl _) (D.bl _) _ _); refine req_bN ?_)
  | ((with_reducible show RIx (D.lst _) (D.int _) _ _); refine rix_l ?_)
  | ((with_reducible show RIx (D.cel _) (D.int _) _ _); refine rix_cl ?_)
  | ((with_reducible show CL _ _ _); walk_at "cl")
  | ((with_reducible show ∃ z, atI _ _ = some z ∧ _); refine ⟨_, rfl, ?_⟩)
  | ((with_reducible show ∃ j, ixN _ _ = some j ∧ _); refine ⟨_, rfl, ?_⟩)
  | ((with_reducible show RIx (D.tup _) (D.int _) _ _); refine rix_t ?_)
  | ((with_reducible show RIsi [D.int _, D.tup _] _ _ ∨ _); first | refine isi2 (t := "int") (b := true) rfl (by decide) (by decide) (by decide) ?_ | refine isi2 (t := "int") (b := false) rfl (by decide) (by decide) (by decide) ?_)
  | ((with_reducible show RIsi [D.bl _, D.tup _] _ _ ∨ _); first | refine isi2 (t := "bool") (b := true) rfl (by decide) (by decide) (by decide) ?_ | refine isi2 (t := "bool") (b := false) rfl (by decide) (by decide) (by decide) ?_)
  | ((with_reducible show RIsi [D.str _, D.tup _] _ _ ∨ _); first | refine isi2 (t := "str") (b := true) rfl (by decide) (by decide) (by decide) ?_ | refine isi2 (t := "str") (b := false) rfl (by decide) (by decide) (by decide) ?_)
  | ((with_reducible show RIsi [D.tup _, D.tup _] _ _ ∨ _); first | refine isi2 (t := "tuple") (b := true) rfl (by decide) (by decide) (by decide) ?_ | refine isi2 (t := "tuple") (b := false) rfl (by decide) (by decide) (by decide) ?_)
  | ((with_reducible show RIsi [D.lst _, D.tup _] _ _ ∨ _); first | refine isi2 (t := "list") (b := true) rfl (by decide) (by decide) (by decide) ?_ | refine isi2 (t := "list") (b := false) rfl (by decide) (by decide) (by decide) ?_)
  | ((with_reducible show RIsi [D.non, D.tup _] _ _ ∨ _); first | refine isi2 (t := "NoneType") (b := true) rfl (by decide) (by decide) (by decide) ?_ | refine isi2 (t := "NoneType") (b := false) rfl (by decide) (by decide) (by decide) ?_)
  | ((with_reducible show RIsi [D.int _, D.raw _] _ _ ∨ _); first | refine isi1 (t := "int") (b := true) rfl (by decide) (by decide) ?_ | refine isi1 (t := "int") (b := false) rfl (by decide) (by decide) ?_)
  | ((with_reducible show RIsi [D.bl _, D.raw _] _ _ ∨ _); first | refine isi1 (t := "bool") (b := true) rfl (by decide) (by decide) ?_ | refine isi1 (t := "bool") (b := false) rfl (by decide) (by decide) ?_)
  | ((with_reducible show RIsi [D.str _, D.raw _] _ _ ∨ _); first | refine isi1 (t := "str") (b := true) rfl (by decide) (by decide) ?_ | refine isi1 (t := "str") (b := false) rfl (by decide) (by decide) ?_)
  | ((with_reducible show RIsi [D.tup _, D.raw _] _ _ ∨ _); first | refine isi1 (t := "tuple") (b := true) rfl (by decide) (by decide) ?_ | refine isi1 (t := "tuple") (b := false) rfl (by decide) (by decide) ?_)
  | ((with_reducible show RIsi [D.lst _, D.raw _] _ _ ∨ _); first | refine isi1 (t := "list") (b := true) rfl (by decide) (by decide) ?_ | refine isi1 (t := "list") (b := false) rfl (by decide) (by decide) ?_)
  | ((with_reducible show RIsi [D.non, D.raw _] _ _ ∨ _); first | refine isi1 (t := "NoneType") (b := true) rfl (by decide) (by decide) ?_ | refine isi1 (t := "NoneType") (b := false) rfl (by decide) (by decide) ?_)
  | ((with_reducible show RAdd (D.str _) (D.str _) _ _); refine .inr (.inl ⟨_, _, rfl, rfl, ?_, ?_⟩))
  | ((with_reducible show RSl (D.str _) _ _ _ _); refine .inr ⟨_, rfl, ?_, ?_⟩)
  | ((with_reducible show RSl (D.lst _) _ _ _ _); refine .inl ⟨_, .l, ?_⟩)
  | ((with_reducible show if isNonD _ = true then _ else _); first | refine iteP rfl ?_ | refine iteQ rfl ?_)
  | ((with_reducible show if (!isNonD _) = true then _ else _); first | refine iteP rfl ?_ | refine iteQ rfl ?_)
  | ((with_reducible show (∀ v, D.int _ ≠ D.raw v) ∧ _); refine nr_int ?_)
  | ((with_reducible show (∀ v, D.non ≠ D.raw v) ∧ _); refine nr_non ?_)
  | ((with_reducible show (∀ v, D.tup _ ≠ D.raw v) ∧ _); refine nr_tup ?_)
  | ((with_reducible show (∀ v, D.cel _ ≠ D.raw v) ∧ _); refine ⟨fun v e => (by cases e), ?_⟩)
  | ((with_reducible show (∀ v, D.lst _ ≠ D.raw v) ∧ _); refine ⟨fun v e => (by cases e), ?_⟩)
  | ((with_reducible show ∃ q, D.cel _ = D.cel q ∧ (∃ (k : Nat) (ds : List D), _) ∧ _); refine app0_cl (by walk_at "cl"; trivial) ?_)
  | ((with_reducible show ∃ (y : D) (k : Nat) (ds : List D), [_] = [y] ∧ _ ∧ _ ∧ _); refine app_cl ?_)
  | ((with_reducible show if _ = true then _ else _); first | refine iteP (by decide) ?_ | refine iteQ (by decide) ?_)
  | ((with_reducible show List.length _ ≤ sizeLine ∧ _); refine ⟨Nat.le_of_ble_eq_true rfl, ?_⟩)
  | ((with_reducible show ∃ i, D.int _ = D.int i ∧ _); refine ⟨_, rfl, ?_⟩)
  | ((with_reducible show ∃ i, D.bl _ = D.bl i ∧ _); refine ⟨_, rfl, ?_⟩)
  | ((with_reducible show onB _ (D.bl _) _); refine ⟨_, rfl, ?_⟩)
  | ((with_reducible show RAdd (D.int _) (D.int _) _ _); refine .inl ⟨_, _, rfl, rfl, ?_⟩)
  | ((with_reducible show ∃ ds i z, LV _ _ ds ∧ D.int _ = D.int i ∧ _ ∧ _); refine' ⟨_, _, _, ?lv, rfl, ?ixe, ?_⟩; (case lv => walk_at "lv"); (case ixe => rfl))
  | ((with_reducible show ∃ k q ds z j, D.cel _ = D.cel q ∧ _ ∧ D.int _ = D.int z ∧ _ ∧ _); refine wgs_cl ?_)
  | ((with_reducible show (∃ i, [D.int _] = [D.int i] ∧ _) ∨ _); refine .inl ⟨_, rfl, ?_⟩)
  | ((with_reducible show ∃ i, [D.int _] = [D.int i] ∧ _); refine ⟨_, rfl, ?_⟩)
  | ((with_reducible show RLen [D.lst _] _ _); refine .inl ⟨_, _, rfl, .l, ?_⟩)
  | ((with_reducible show RLen [D.cel _] _ _); refine rlen_cl ?_)
  | ((with_reducible show RLen [D.str _] _ _); refine .inr (.inr ⟨_, rfl, ?_, ?_⟩))
  | ((with_reducible show RLen [D.tup _] _ _); refine .inr (.inl ⟨_, rfl, ?_⟩))
  | ((with_reducible show if true = true then _ else _); refine iteT' ?_)
  | ((with_reducible show if false = true then _ else _); refine iteF' ?_))
local macro_rules | `(tactic| walk_at "s") => `(tactic| first
  | ((with_reducible show WG _ _ (Expr.Tuple _ _ _) (D.tup _) _ _ _); refine wg_tup (by assumption) rfl ?_)
  | ((with_reducible show WGs _ _ [] [] _ _ _); refine wgs_nil ?_)
  | ((with_reducible show WGs _ _ (_ :: _) (_ :: _) _ _ _); refine wgs_cons ?_)
  | ((with_reducible show WB _ _ [] _ _ _); refine wb_nil ?_)
  | ((with_reducible show WB _ _ [_] _ _ _); refine wb_one ?_)
  | ((with_reducible show WB _ _ (_ :: _) _ _ _); refine wb_cons ?_)
  | ((with_reducible show WS _ _ (Stmt.If _ _ _ _) _ _ _); refine ws_if ?_)
  | ((with_reducible show WS _ _ (Stmt.Return (some _) _) _ _ _); refine ws_ret ?_)
  | ((with_reducible show WS _ _ (Stmt.Return none _) _ _ _); refine ws_retN ?_)
  | ((with_reducible show WS _ _ (Stmt.Expr _ _) _ _ _); refine ws_expr ?_)
  | ((with_reducible show WS _ _ (Stmt.Assign [Expr.Subscript _ _ _] _ _) _ _ _); refine ws_asg ?_)
  | ((with_reducible show WG _ _ (Expr.Subscript _ _ _) _ _ _ _); refine wg_sub ?_)
  | walk_at "t")
local macro_rules | `(tactic| walk_at "g") => `(tactic| repeat (first | walk_at "e" | walk_at "s"))
/-! BagA -/
def top (i : Nat) : Stmt := PySem.Challenge.pw_keeprests_k59_texts_written_and_read.main.body.getD i (.Pass ⟨0, 0, 0, 0⟩)
abbrev st_InvalidText___init__ : Stmt := inClass (top 2) 0
def N_InvalidText___init__ : List Str := ["self", "place"]
theorem sc_InvalidText___init__ : FnScope N_InvalidText___init__ ["self", "place"] (defScope st_InvalidText___init__) := ⟨rfl, rfl, rfl, by decide +kernel, rfl, by decide +kernel, by decide +kernel⟩
abbrev st_integer_in : Stmt := top 10
def N_integer_in : List Str := ["word", "figures", "sign"]
theorem sc_integer_in : FnScope N_integer_in ["word"] (defScope st_integer_in) := ⟨rfl, rfl, rfl, by decide +kernel, rfl, by decide +kernel, by decide +kernel⟩
abbrev st_item_in : Stmt := top 11
def N_item_in : List Str := ["word", "parts", "part"]
theorem sc_item_in : FnScope N_item_in ["word"] (defScope st_item_in) := ⟨rfl, rfl, rfl, by decide +kernel, rfl, by decide +kernel, by decide +kernel⟩
abbrev st_write_book : Stmt := top 12
def N_write_book : List Str := ["book", "place", "value"]
theorem sc_write_book : FnScope N_write_book ["book"] (defScope st_write_book) := ⟨rfl, rfl, rfl, by decide +kernel, rfl, by decide +kernel, by decide +kernel⟩
abbrev st_read_book : Stmt := top 13
def N_read_book : List Str := ["text", "words", "found", "number", "word", "item"]
theorem sc_read_book : FnScope N_read_book ["text"] (defScope st_read_book) := ⟨rfl, rfl, rfl, by decide +kernel, rfl, by decide +kernel, by decide +kernel⟩
abbrev st_write_formula : Stmt := top 14
def N_write_formula : List Str := ["formula", "value"]
theorem sc_write_formula : FnScope N_write_formula ["formula"] (defScope st_write_formula) := ⟨rfl, rfl, rfl, by decide +kernel, rfl, by decide +kernel, by decide +kernel⟩
abbrev st_read_formula : Stmt := top 15
def N_read_formula : List Str := ["text", "found", "number", "word", "value"]
theorem sc_read_formula : FnScope N_read_formula ["text"] (defScope st_read_formula) := ⟨rfl, rfl, rfl, by decide +kernel, rfl, by decide +kernel, by decide +kernel⟩
abbrev st_write_table : Stmt := top 16
def N_write_table : List Str := ["table", "rest"]
theorem sc_write_table : FnScope N_write_table ["table"] (defScope st_write_table) := ⟨rfl, rfl, rfl, by decide +kernel, rfl, by decide +kernel, by decide +kernel⟩
abbrev st_read_table : Stmt := top 17
def N_read_table : List Str := ["text", "found", "number", "word", "rest"]
theorem sc_read_table : FnScope N_read_table ["text"] (defScope st_read_table) := ⟨rfl, rfl, rfl, by decide +kernel, rfl, by decide +kernel, by decide +kernel⟩
abbrev st_l_bag : Stmt := top 19
def N_l_bag : List Str := ["_law_script", "_law_stir", "_law_cell"]
theorem sc_l_bag : FnScope N_l_bag ["_law_script"] (defScope st_l_bag) := ⟨rfl, rfl, rfl, by decide +kernel, rfl, by decide +kernel, by decide +kernel⟩
abbrev st_l_stirred : Stmt := top 20
def N_l_stirred : List Str := ["_law_bag_here", "_law_wide", "_law_found", "_law_k", "_law_mixed"]
theorem sc_l_stirred : FnScope N_l_stirred ["_law_bag_here", "_law_wide"] (defScope st_l_stirred) := ⟨rfl, rfl, rfl, by decide +kernel, rfl, by decide +kernel, by decide +kernel⟩
abbrev st_l_draw : Stmt := top 21
def N_l_draw : List Str := ["_law_bag_here", "_law_wide", "_law_found"]
theorem sc_l_draw : FnScope N_l_draw ["_law_bag_here", "_law_wide"] (defScope st_l_draw) := ⟨rfl, rfl, rfl, by decide +kernel, rfl, by decide +kernel, by decide +kernel⟩
abbrev st_l_alike : Stmt := top 22
def N_l_alike : List Str := ["_law_found", "_law_due_here", "_law_k"]
theorem sc_l_alike : FnScope N_l_alike ["_law_found", "_law_due_here"] (defScope st_l_alike) := ⟨rfl, rfl, rfl, by decide +kernel, rfl, by decide +kernel, by decide +kernel⟩
abbrev st_l_number : Stmt := top 23
def N_l_number : List Str := ["_law_bag_here", "_law_size"]
theorem sc_l_number : FnScope N_l_number ["_law_bag_here"] (defScope st_l_number) := ⟨rfl, rfl, rfl, by decide +kernel, rfl, by decide +kernel, by decide +kernel⟩
abbrev st_l_due : Stmt := top 24
def N_l_due : List Str := ["_law_some", "_law_numbers", "_law_rests", "_law_found", "_law_size", "_law_x", "_law_told", "_law_left"]
theorem sc_l_due : FnScope N_l_due ["_law_some", "_law_numbers", "_law_rests"] (defScope st_l_due) := ⟨rfl, rfl, rfl, by decide +kernel, rfl, by decide +kernel, by decide +kernel⟩
abbrev st_law : Stmt := top 25
def N_law : List Str := ["_law_script", "_law_bag_here", "_law_turn", "_law_few", "_law_wide", "_law_long", "_law_spots_in", "_law_some", "_law_numbers", "_law_rests", "_law_kept", "_law_due_here", "_law_told", "_law_one", "_law_k", "_law_x"]
theorem sc_law : FnScope N_law ["_law_script"] (defScope st_law) := ⟨rfl, rfl, rfl, by decide +kernel, rfl, by decide +kernel, by decide +kernel⟩
def BagL (L : List D) : Prop := ∃ (cells : List Int) (i cur stir cnt : Int), L = [.lst (cells.map D.int), .int i, .int cur, .int stir, .int cnt] ∧ 0 ≤ i ∧ i ≤ cells.length ∧ (∀ c ∈ cells, 0 ≤ c ∧ c.natAbs < 2 ^ 2000) ∧ 0 ≤ cur ∧ cur.natAbs < 2 ^ 2000 ∧ 0 ≤ stir ∧ stir < 2147483647
/-- draws: wide from 1 on, below 2 ^ 2000 -/
def TDraw : TSp := fun ds M Q _ => ∃ (b : Addr) (k : Nat) (L : List D) (wide : Int), ds = [.cel b, .int wide] ∧ M[k]? = some (b, .lst L) ∧ BagL L ∧ 0 < wide ∧ wide.natAbs < 2 ^ 2000 ∧ ∀ r L', 0 ≤ r → r < wide → BagL L' → Q (.int r) (M.set k (b, .lst L'))
theorem TDraw_mono : Mono TDraw := fun ds M Q Q' E E' h _ ⟨b, k, L, wide, h1, h2, h3, h4, h5, h6⟩ => ⟨b, k, L, wide, h1, h2, h3, h4, h5, fun r L' a b c => h _ _ (h6 r L' a b c)⟩
theorem TDraw_len : ∀ ds M Q E, TDraw ds M Q E → ds.length = 2 := fun ds M Q E h => by obtain ⟨_, _, _, _, rfl, _⟩ := h; rfl
theorem set_self {α : Type} : ∀ {l : List α} {k : Nat} {x : α}, l[k]? = some x → l.set k x = l
  | [], _, _, h => by simp at h
  | y :: l, 0, x, h => by simp at h; simp [h]
  | y :: l, k + 1, x, h => by simp [set_self (l := l) (k := k) (by simpa using h)]
section
variable {P : Program} {w : World} {K : PySem.W.Frag} {mg : Str → Option Value} {base : Heap}
local macro_rules | `(tactic| walk_at "ok") => `(tactic| first
  | ((show BlkOk N_l_stirred (defScope st_l_stirred) _ _); exact blkOk_by (by decide +kernel)))
local macro_rules | `(tactic| walk_at "n") => `(tactic| first
  | ((with_reducible show WE _ _ (Expr.Name "_law_bag_here" _) _ _ _); refine we_name (i := 0) rfl (by first | exact .inl rfl | exact .inr (.inl rfl) | exact .inr (.inr rfl)) rfl ?_)
  | ((with_reducible show WE _ _ (Expr.Name "_law_wide" _) _ _ _); refine we_name (i := 1) rfl (by first | exact .inl rfl | exact .inr (.inl rfl) | exact .inr (.inr rfl)) rfl ?_)
  | ((with_reducible show WE _ _ (Expr.Name "_law_found" _) _ _ _); refine we_name (i := 2) rfl (by first | exact .inl rfl | exact .inr (.inl rfl) | exact .inr (.inr rfl)) rfl ?_)
  | ((with_reducible show WE _ _ (Expr.Name "_law_k" _) _ _ _); refine we_name (i := 3) rfl (by first | exact .inl rfl | exact .inr (.inl rfl) | exact .inr (.inr rfl)) rfl ?_)
  | ((with_reducible show WE _ _ (Expr.Name "_law_mixed" _) _ _ _); refine we_name (i := 4) rfl (by first | exact .inl rfl | exact .inr (.inl rfl) | exact .inr (.inr rfl)) rfl ?_)
  | ((with_reducible show WE _ _ (Expr.Name "int" _) _ _ _); refine we_bltn (v := .ty "int") rfl (by assumption) (by decide +kernel) rfl ?_))
local macro_rules | `(tactic| walk_at "t") => `(tactic| first
  | ((with_reducible show WS _ _ (Stmt.Assign [Expr.Name "_law_bag_here" _] _ _) _ _ _); refine ws_set (i := 0) (by assumption) rfl (by first | exact .inl rfl | exact .inr rfl) ?_)
  | ((with_reducible show WG _ _ (Expr.Name "_law_bag_here" _) _ _ _ _); refine wg_name (i := 0) (by assumption) rfl (by first | exact .inl rfl | exact .inr rfl) ?_)
  | ((with_reducible show WS _ _ (Stmt.Assign [Expr.Name "_law_wide" _] _ _) _ _ _); refine ws_set (i := 1) (by assumption) rfl (by first | exact .inl rfl | exact .inr rfl) ?_)
  | ((with_reducible show WG _ _ (Expr.Name "_law_wide" _) _ _ _ _); refine wg_name (i := 1) (by assumption) rfl (by first | exact .inl rfl | exact .inr rfl) ?_)
  | ((with_reducible show WS _ _ (Stmt.Assign [Expr.Name "_law_found" _] _ _) _ _ _); refine ws_set (i := 2) (by assumption) rfl (by first | exact .inl rfl | exact .inr rfl) ?_)
  | ((with_reducible show WG _ _ (Expr.Name "_law_found" _) _ _ _ _); refine wg_name (i := 2) (by assumption) rfl (by first | exact .inl rfl | exact .inr rfl) ?_)
  | ((with_reducible show WS _ _ (Stmt.Assign [Expr.Name "_law_k" _] _ _) _ _ _); refine ws_set (i := 3) (by assumption) rfl (by first | exact .inl rfl | exact .inr rfl) ?_)
  | ((with_reducible show WG _ _ (Expr.Name "_law_k" _) _ _ _ _); refine wg_name (i := 3) (by assumption) rfl (by first | exact .inl rfl | exact .inr rfl) ?_)
  | ((with_reducible show WS _ _ (Stmt.Assign [Expr.Name "_law_mixed" _] _ _) _ _ _); refine ws_set (i := 4) (by assumption) rfl (by first | exact .inl rfl | exact .inr rfl) ?_)
  | ((with_reducible show WG _ _ (Expr.Name "_law_mixed" _) _ _ _ _); refine wg_name (i := 4) (by assumption) rfl (by first | exact .inl rfl | exact .inr rfl) ?_)
  | ((with_reducible show WS _ _ (Stmt.Assign [Expr.Tuple _ _ _] _ _) _ _ _); refine ws_asg ?_))
theorem fn_stirred {f : Addr} {fd : FuncData} (b_int : mg "int" = none) (b_range : mg "range" = none) (Fn : L2.Fun K "_law_stirred" "_law_stirred" st_l_stirred f fd) :
    FnOk P w K mg base (L2.CX P w) 1 f fd ["_law_bag_here", "_law_wide"] (spG K TDraw) := by
  refine fn_ok Fn sc_l_stirred rfl TDraw_len ?_
  intro cdv A outer s H E N hr ds M Q X' h
  obtain ⟨b, k, L, wide, rfl, hM, hL, hw, hw2, q⟩ := h
  obtain ⟨cells, i, cur, stir, cnt, rfl, hi0, hi1, hc, hcur0, hcur1, hs0, hs1⟩ := id hL
  show WB _ _ _ [some _, some _, none, none, none] _ _
  refine wb_cons ?_
  walk_at "g"
  refine ws_for N (wi_range1 rfl (by assumption) ?_)
  walk_at "g"
  rotate_left 1
  · exact ⟨by decide, by decide⟩
  have hb1 : Builtin.Int.intBits wide ≤ 2000 := intBits_le hw2
  have hb0 : (0 : Int) ≤ (Builtin.Int.intBits wide : Int) / 27 := by omega
  have hb2 : (Builtin.Int.intBits wide : Int) / 27 ≤ 75 := by omega
  refine ⟨by omega, by omega, fun j δ' M' => ∃ (found stir' cnt' : Int) (x3 x4 : Option D), δ' = [some (.cel b), some (.int wide), some (.int found), x3, x4] ∧ M' = M.set k (b, .lst [.lst (cells.map D.int), .int i, .int cur, .int stir', .int cnt']) ∧
    0 ≤ found ∧ found < 2 ^ (27 * j) ∧ 0 ≤ stir' ∧ stir' < 2147483647, ?_, fun _ _ _ _ _ => trivial, ?_, ?_⟩
  · refine ⟨0, stir, cnt, none, none, rfl, ?_, by omega, by decide, hs0, hs1⟩
    exact (set_self hM).symm
  · rintro j d δ' M' hd ⟨found, stir', cnt', x3, x4, rfl, rfl, hf0, hf1, hs0', hs1'⟩
    obtain ⟨hj, rfl⟩ := rangeD_inv hd
    have hj75 : j ≤ 75 := by omega
    walk_at "g"
    all_goals (first | exact IntMulOk.of_left (by decide) | exact IntMulOk.of_right (by decide) | exact ⟨by decide, by decide⟩ | exact ⟨by decide, by have := intBits_le (i := stir') (n := 31) (by omega); omega⟩ | decide | skip)
    have z0 := Int.emod_nonneg (stir' ^ Int.toNat 3 + 69621 * stir' + 1031 * (cnt' + 1) + 1) (show (2147483647 : Int) ≠ 0 by decide)
    have z1 := Int.emod_lt_of_pos (stir' ^ Int.toNat 3 + 69621 * stir' + 1031 * (cnt' + 1) + 1) (show (0 : Int) < 2147483647 by decide)
    refine ⟨_, _, _, _, _, rfl, rfl, ?_, ?_, z0, z1⟩
    · omega
    · have e : (2 : Int) ^ (27 * (j + 1)) = 2 ^ (27 * j) * 134217728 := by rw [Nat.mul_add, Int.pow_add]; rfl
      rw [e]
      omega
  · rintro δ' M' ⟨found, stir', cnt', x3, x4, rfl, rfl, hf0, hf1, hs0', hs1'⟩
    walk_at "g"
    any_goals exact hw
    exact q _ _ (Int.emod_nonneg _ (by omega)) (Int.emod_lt_of_pos _ hw) ⟨cells, i, cur, stir', cnt', rfl, hi0, hi1, hc, hcur0, hcur1, hs0', hs1'⟩
end
section
variable {P : Program} {w : World} {K : PySem.W.Frag} {mg : Str → Option Value} {base : Heap}
local macro_rules | `(tactic| walk_at "ok") => `(tactic| first
  | ((show BlkOk N_l_draw (defScope st_l_draw) _ _); exact blkOk_by (by decide +kernel)))
local macro_rules | `(tactic| walk_at "n") => `(tactic| first
  | ((with_reducible show WE _ _ (Expr.Name "_law_bag_here" _) _ _ _); refine we_name (i := 0) rfl (by first | exact .inl rfl | exact .inr (.inl rfl) | exact .inr (.inr rfl)) rfl ?_)
  | ((with_reducible show WE _ _ (Expr.Name "_law_wide" _) _ _ _); refine we_name (i := 1) rfl (by first | exact .inl rfl | exact .inr (.inl rfl) | exact .inr (.inr rfl)) rfl ?_)
  | ((with_reducible show WE _ _ (Expr.Name "_law_found" _) _ _ _); refine we_name (i := 2) rfl (by first | exact .inl rfl | exact .inr (.inl rfl) | exact .inr (.inr rfl)) rfl ?_)
  | ((with_reducible show WE _ _ (Expr.Name "int" _) _ _ _); refine we_bltn (v := .ty "int") rfl (by assumption) (by decide +kernel) rfl ?_))
local macro_rules | `(tactic| walk_at "t") => `(tactic| first
  | ((with_reducible show WS _ _ (Stmt.Assign [Expr.Name "_law_bag_here" _] _ _) _ _ _); refine ws_set (i := 0) (by assumption) rfl (by first | exact .inl rfl | exact .inr rfl) ?_)
  | ((with_reducible show WG _ _ (Expr.Name "_law_bag_here" _) _ _ _ _); refine wg_name (i := 0) (by assumption) rfl (by first | exact .inl rfl | exact .inr rfl) ?_)
  | ((with_reducible show WS _ _ (Stmt.Assign [Expr.Name "_law_wide" _] _ _) _ _ _); refine ws_set (i := 1) (by assumption) rfl (by first | exact .inl rfl | exact .inr rfl) ?_)
  | ((with_reducible show WG _ _ (Expr.Name "_law_wide" _) _ _ _ _); refine wg_name (i := 1) (by assumption) rfl (by first | exact .inl rfl | exact .inr rfl) ?_)
  | ((with_reducible show WS _ _ (Stmt.Assign [Expr.Name "_law_found" _] _ _) _ _ _); refine ws_set (i := 2) (by assumption) rfl (by first | exact .inl rfl | exact .inr rfl) ?_)
  | ((with_reducible show WG _ _ (Expr.Name "_law_found" _) _ _ _ _); refine wg_name (i := 2) (by assumption) rfl (by first | exact .inl rfl | exact .inr rfl) ?_)
  | ((with_reducible show WS _ _ (Stmt.Assign [Expr.Tuple _ _ _] _ _) _ _ _); refine ws_asg ?_))
local macro_rules | `(tactic| walk_at "c") => `(tactic| first
  | ((with_reducible show WE _ _ (Expr.Call (Expr.Name "_law_stirred" _) _ [] _) _ _ _); refine we_call (x := "_law_stirred") (by assumption) (by walk_at "r") rfl ?_))
theorem fn_draw {f : Addr} {fd : FuncData} (b_len : mg "len" = none) (b_int : mg "int" = none) (d_stirred : FD P w K mg base 1 "_law_stirred" 2 TDraw) (Fn : L2.Fun K "_law_draw" "_law_draw" st_l_draw f fd) :
    FnOk P w K mg base (L2.CX P w) 2 f fd ["_law_bag_here", "_law_wide"] (spG K TDraw) := by
  refine fn_ok Fn sc_l_draw rfl TDraw_len ?_
  intro cdv A outer s H E N hr ds M Q X' h
  obtain ⟨b, k, L, wide, rfl, hM, hL, hw, hw2, q⟩ := h
  obtain ⟨cells, i, cur, stir, cnt, rfl, hi0, hi1, hc, hcur0, hcur1, hs0, hs1⟩ := id hL
  show WB _ _ _ [some _, some _, none] _ _
  refine wb_cons ?_
  walk_at "g"
  have fin : ∀ (i cur : Int), 0 ≤ i → i ≤ cells.length → 0 ≤ cur → cur.natAbs < 2 ^ 2000 → Q (.int (cur % wide)) (M.set k (b, .lst [.lst (cells.map D.int), .int i, .int (cur / wide), .int stir, .int cnt])) := by
    intro i cur hi0 hi1 hcur0 hcur1
    refine q _ _ (Int.emod_nonneg _ (by omega)) (Int.emod_lt_of_pos _ hw) ⟨cells, i, _, stir, cnt, rfl, hi0, hi1, hc, Int.ediv_nonneg hcur0 (by omega), ?_, hs0, hs1⟩
    have h1 := Int.ediv_nonneg hcur0 (show (0 : Int) ≤ wide by omega)
    have h2 := Int.ediv_le_self wide hcur0
    exact Nat.lt_of_le_of_lt (by show (cur / wide).natAbs ≤ cur.natAbs; omega) hcur1
  have cw : ∀ cur, CDivW cur wide := fun cur => ⟨hw, Nat.lt_of_lt_of_le (log2_lt hw2 (by decide)) (by decide)⟩
  refine iteD (fun h0 => ?_) (fun h0 => ?_)
  · walk_at "g"
    rw [List.length_map]
    refine iteD (fun h1 => ?_) (fun h1 => ?_)
    · obtain ⟨n, rfl⟩ := Int.eq_ofNat_of_zero_le hi0
      have hn : n < cells.length := by exact_mod_cast h1
      have hcn := hc _ (List.getElem_mem hn)
      walk_at "g"
      refine ⟨.int cells[n], atI_nat (by simp [hn]), ?_⟩
      walk_at "g"
      rotate_left 1
      · exact cw _
      · exact hw
      have z := fin ((n : Int) + 1) cells[n] (by omega) (by omega) hcn.1 hcn.2
      exact z
    · walk_at "g"
      refine iteD (fun _ => ?_) (fun z => absurd h0 z)
      walk_at "g"
      exact ⟨b, k, _, wide, rfl, hM, hL, hw, hw2, q⟩
  · walk_at "g"
    refine iteD (fun z => absurd z h0) (fun _ => ?_)
    walk_at "g"
    rotate_left 1
    · exact cw _
    · exact hw
    exact fin i cur hi0 hi1 hcur0 hcur1
end
/-! BagB -/
theorem cutD_int (ns : List Int) (l u : Option Int) : ∃ ms : List Int, cutD (ns.map D.int) l u = ms.map D.int ∧ ms.length ≤ ns.length := by
  refine ⟨(ns.drop (HT.sIx ns.length 0 l)).take (HT.sIx ns.length ns.length u - HT.sIx ns.length 0 l), ?_, ?_⟩
  · unfold cutD
    rw [List.length_map, ← List.map_drop, ← List.map_take]
  · rw [List.length_take, List.length_drop]; omega
/-- the bag of a script -/
def TBag : TSp := fun ds M Q _ => ∃ ns : List Int, ds = [.lst (ns.map D.int)] ∧ ns.length ≤ 1000 ∧ ∀ p L, BagL L → Q (.cel p) ((p, .lst L) :: M)
theorem TBag_mono : Mono TBag := fun ds M Q Q' E E' h _ ⟨ns, h1, h2, h3⟩ => ⟨ns, h1, h2, fun p L a => h _ _ (h3 p L a)⟩
theorem TBag_len : ∀ ds M Q E, TBag ds M Q E → ds.length = 1 := fun ds M Q E h => by obtain ⟨_, rfl, _⟩ := h; rfl
def fBag : D → D | .int c => .int ((if c < 0 then -c else c) % (10 ^ 60) ^ 10) | d => d
section
variable {P : Program} {w : World} {K : PySem.W.Frag} {mg : Str → Option Value} {base : Heap}
local macro_rules | `(tactic| walk_at "ok") => `(tactic| first
  | ((show BlkOk N_l_bag (defScope st_l_bag) _ _); exact blkOk_by (by decide +kernel)))
local macro_rules | `(tactic| walk_at "n") => `(tactic| first
  | ((with_reducible show WE _ _ (Expr.Name "_law_script" _) _ _ _); refine we_name (i := 0) rfl (by first | exact .inl rfl | exact .inr (.inl rfl) | exact .inr (.inr rfl)) rfl ?_)
  | ((with_reducible show WE _ _ (Expr.Name "_law_stir" _) _ _ _); refine we_name (i := 1) rfl (by first | exact .inl rfl | exact .inr (.inl rfl) | exact .inr (.inr rfl)) rfl ?_)
  | ((with_reducible show WE _ _ (Expr.Name "_law_cell" _) _ _ _); refine we_name (i := 2) rfl (by first | exact .inl rfl | exact .inr (.inl rfl) | exact .inr (.inr rfl)) rfl ?_)
  | ((with_reducible show WE _ _ (Expr.Name "int" _) _ _ _); refine we_bltn (v := .ty "int") rfl (by assumption) (by decide +kernel) rfl ?_))
local macro_rules | `(tactic| walk_at "t") => `(tactic| first
  | ((with_reducible show WS _ _ (Stmt.Assign [Expr.Name "_law_script" _] _ _) _ _ _); refine ws_set (i := 0) (by assumption) rfl (by first | exact .inl rfl | exact .inr rfl) ?_)
  | ((with_reducible show WG _ _ (Expr.Name "_law_script" _) _ _ _ _); refine wg_name (i := 0) (by assumption) rfl (by first | exact .inl rfl | exact .inr rfl) ?_)
  | ((with_reducible show WS _ _ (Stmt.Assign [Expr.Name "_law_stir" _] _ _) _ _ _); refine ws_set (i := 1) (by assumption) rfl (by first | exact .inl rfl | exact .inr rfl) ?_)
  | ((with_reducible show WG _ _ (Expr.Name "_law_stir" _) _ _ _ _); refine wg_name (i := 1) (by assumption) rfl (by first | exact .inl rfl | exact .inr rfl) ?_)
  | ((with_reducible show WS _ _ (Stmt.Assign [Expr.Name "_law_cell" _] _ _) _ _ _); refine ws_set (i := 2) (by assumption) rfl (by first | exact .inl rfl | exact .inr rfl) ?_)
  | ((with_reducible show WG _ _ (Expr.Name "_law_cell" _) _ _ _ _); refine wg_name (i := 2) (by assumption) rfl (by first | exact .inl rfl | exact .inr rfl) ?_)
  | ((with_reducible show WS _ _ (Stmt.Assign [Expr.Tuple _ _ _] _ _) _ _ _); refine ws_asg ?_))
local macro_rules | `(tactic| walk_at "tg") => `(tactic| first
  | exact Tg.one (i := 2) rfl rfl)
theorem fn_bag {f : Addr} {fd : FuncData} (b_int : mg "int" = none) (b_abs : mg "abs" = none) (Fn : L2.Fun K "_law_bag" "_law_bag" st_l_bag f fd) :
    FnOk P w K mg base (L2.CX P w) 1 f fd ["_law_script"] (spG K TBag) := by
  refine fn_ok Fn sc_l_bag rfl TBag_len ?_
  intro cdv A outer s H E N hr ds M Q X' h
  obtain ⟨ns, rfl, hns, q⟩ := h
  obtain ⟨ms, hms, hml⟩ := cutD_int ns none (some 63)
  show WB _ _ _ [some _, none, none] _ _
  refine wb_cons ?_
  walk_at "g"
  refine ws_for N (wi_list ?_)
  walk_at "g"
  refine ⟨_, .l, ?_⟩
  rw [hms]
  refine ⟨fun j δ' M' => ∃ (stir : Int) (x2 : Option D), δ' = [some (.lst (ns.map D.int)), some (.int stir), x2] ∧ M' = M ∧ 0 ≤ stir ∧ stir < 2147483647, ?_, ?_, ?_, ?_⟩
  · exact ⟨179, none, rfl, rfl, by decide, by decide⟩
  · rintro j δ' M' hj ⟨stir, x2, rfl, rfl, h0, h1⟩
    exact .l
  · rintro j d δ' M' hd ⟨stir, x2, rfl, rfl, h0, h1⟩
    obtain ⟨c, rfl⟩ : ∃ c, d = .int c := by
      rw [List.getElem?_map] at hd
      cases e : ms[j]? with
      | none => rw [e] at hd; cases hd
      | some c => rw [e] at hd; cases hd; exact ⟨c, rfl⟩
    walk_at "g"
    all_goals (first | exact IntMulOk.of_right (by decide) | decide | skip)
    refine ⟨_, _, rfl, rfl, Int.emod_nonneg _ (by decide), Int.emod_lt_of_pos _ (by decide)⟩
  · rintro δ' M' ⟨stir, x2, rfl, rfl, h0, h1⟩
    walk_at "g"
    refine we_lstC (wa_cons (we_froz 0 (we_lcM fBag N (by walk_at "tg") (by walk_at "ok") (wi_list ?_))))
    walk_at "g"
    refine ⟨_, .l, ?_⟩
    rw [hms]
    refine ⟨?_, fun _ _ => .l, ?_, ?_⟩
    · rw [List.length_map]
      exact Nat.le_trans hml (Nat.le_trans hns (by decide))
    · intro i d acc p hd
      obtain ⟨c, rfl⟩ : ∃ c, d = .int c := by
        rw [List.getElem?_map] at hd
        cases e : ms[i]? with
        | none => rw [e] at hd; cases hd
        | some c => rw [e] at hd; cases hd; exact ⟨c, rfl⟩
      refine ⟨_, rfl, fun B => ?_⟩
      walk_at "g"
      all_goals (first | exact ⟨rfl, rfl⟩ | exact ⟨by decide, by decide⟩ | decide | skip)
    · intro p
      refine ⟨p, _, rfl, rfl, ?_⟩
      walk_at "g"
      refine fun p' => q p' _ ⟨ms.map fun c => (if c < 0 then -c else c) % (10 ^ 60) ^ 10, 0, 0, stir, 0, by rw [List.map_map, List.map_map]; rfl, by decide, by omega, ?_, by decide, by decide, h0, h1⟩
      intro c hc
      obtain ⟨c, _, rfl⟩ := List.mem_map.mp hc
      have z0 := Int.emod_nonneg (if c < 0 then -c else c) (show ((10 : Int) ^ 60) ^ 10 ≠ 0 by decide)
      have z1 := Int.emod_lt_of_pos (if c < 0 then -c else c) (show (0 : Int) < ((10 : Int) ^ 60) ^ 10 by decide)
      refine ⟨z0, ?_⟩
      have e : ((10 : Int) ^ 60) ^ 10 < ((2 ^ 2000 : Nat) : Int) := by decide
      omega
end
/-! BagC -/
section
variable {P : Program} {w : World} {K : PySem.W.Frag} {mg : Str → Option Value} {base : Heap}
local macro_rules | `(tactic| walk_at "ok") => `(tactic| first
  | ((show BlkOk N_l_alike (defScope st_l_alike) _ _); exact blkOk_by (by decide +kernel)))
local macro_rules | `(tactic| walk_at "n") => `(tactic| first
  | ((with_reducible show WE _ _ (Expr.Name "_law_found" _) _ _ _); refine we_name (i := 0) rfl (by first | exact .inl rfl | exact .inr (.inl rfl) | exact .inr (.inr rfl)) rfl ?_)
  | ((with_reducible show WE _ _ (Expr.Name "_law_due_here" _) _ _ _); refine we_name (i := 1) rfl (by first | exact .inl rfl | exact .inr (.inl rfl) | exact .inr (.inr rfl)) rfl ?_)
  | ((with_reducible show WE _ _ (Expr.Name "_law_k" _) _ _ _); refine we_name (i := 2) rfl (by first | exact .inl rfl | exact .inr (.inl rfl) | exact .inr (.inr rfl)) rfl ?_)
  | ((with_reducible show WE _ _ (Expr.Name "int" _) _ _ _); refine we_bltn (v := .ty "int") rfl (by assumption) (by decide +kernel) rfl ?_)
  | ((with_reducible show WE _ _ (Expr.Name "bool" _) _ _ _); refine we_bltn (v := .ty "bool") rfl (by assumption) (by decide +kernel) rfl ?_)
  | ((with_reducible show WE _ _ (Expr.Name "str" _) _ _ _); refine we_bltn (v := .ty "str") rfl (by assumption) (by decide +kernel) rfl ?_)
  | ((with_reducible show WE _ _ (Expr.Name "list" _) _ _ _); refine we_bltn (v := .ty "list") rfl (by assumption) (by decide +kernel) rfl ?_)
  | ((with_reducible show WE _ _ (Expr.Name "tuple" _) _ _ _); refine we_bltn (v := .ty "tuple") rfl (by assumption) (by decide +kernel) rfl ?_))
local macro_rules | `(tactic| walk_at "t") => `(tactic| first
  | ((with_reducible show WS _ _ (Stmt.Assign [Expr.Name "_law_found" _] _ _) _ _ _); refine ws_set (i := 0) (by assumption) rfl (by first | exact .inl rfl | exact .inr rfl) ?_)
  | ((with_reducible show WG _ _ (Expr.Name "_law_found" _) _ _ _ _); refine wg_name (i := 0) (by assumption) rfl (by first | exact .inl rfl | exact .inr rfl) ?_)
  | ((with_reducible show WS _ _ (Stmt.Assign [Expr.Name "_law_due_here" _] _ _) _ _ _); refine ws_set (i := 1) (by assumption) rfl (by first | exact .inl rfl | exact .inr rfl) ?_)
  | ((with_reducible show WG _ _ (Expr.Name "_law_due_here" _) _ _ _ _); refine wg_name (i := 1) (by assumption) rfl (by first | exact .inl rfl | exact .inr rfl) ?_)
  | ((with_reducible show WS _ _ (Stmt.Assign [Expr.Name "_law_k" _] _ _) _ _ _); refine ws_set (i := 2) (by assumption) rfl (by first | exact .inl rfl | exact .inr rfl) ?_)
  | ((with_reducible show WG _ _ (Expr.Name "_law_k" _) _ _ _ _); refine wg_name (i := 2) (by assumption) rfl (by first | exact .inl rfl | exact .inr rfl) ?_)
  | ((with_reducible show WS _ _ (Stmt.Assign [Expr.Tuple _ _ _] _ _) _ _ _); refine ws_asg ?_))
local macro_rules | `(tactic| walk_at "c") => `(tactic| first
  | ((with_reducible show WE _ _ (Expr.Call (Expr.Name "_law_alike" _) _ [] _) _ _ _); refine we_call (x := "_law_alike") (by assumption) (by walk_at "r") rfl ?_))
local macro_rules | `(tactic| walk_at "tg") => `(tactic| first
  | exact Tg.one (i := 2) rfl rfl)
theorem fn_alike {f : Addr} {fd : FuncData} (b_isi : mg "isinstance" = none) (b_len : mg "len" = none) (b_all : mg "all" = none) (b_range : mg "range" = none) (b_bool : mg "bool" = none) (b_int : mg "int" = none) (b_str : mg "str" = none) (b_list : mg "list" = none) (b_tuple : mg "tuple" = none)
    (Fn : L2.Fun K "_law_alike" "_law_alike" st_l_alike f fd) (k n : Nat) (d_alike : ∀ m, n = m + 1 → FD P w K mg base k "_law_alike" 2 (TAlk m)) :
    FnOk P w K mg base (L2.CX P w) (k + 1) f fd ["_law_found", "_law_due_here"] (spG K (TAlk n)) := by
  refine fn_ok Fn sc_l_alike rfl (TAlk_len n) ?_
  intro cdv A outer s H E N hr ds M Q X' h
  obtain ⟨d, e, rfl, ha, q⟩ := h
  show WB _ _ _ [some _, some _, none] _ _
  refine wb_cons ?_
  cases ha with
  | non =>
    walk_at "g"
    refine req_n ?_
    exact q
  | int i =>
    walk_at "g"
    rw [decide_eq_true rfl]
    exact q
  | bl i =>
    walk_at "g"
    rw [decide_eq_true rfl]
    exact q
  | str i =>
    walk_at "g"
    rw [decide_eq_true rfl]
    exact q
  | @seq m _ _ t ds es h1 h2 hl hz ha =>
    have ht : t = "list" ∨ t = "tuple" := h1.elim (fun z => .inl z.1) fun z => .inr z.1
    have hb : (isT t "list" || isT t "tuple") = true := by rcases ht with rfl | rfl <;> decide
    have dl := d_alike m rfl
    walk_at "g"
    refine isi2 h2.ty (by decide) (by decide) hb ?_
    walk_at "g"
    refine isi2 h1.ty (by decide) (by decide) hb ?_
    walk_at "g"
    refine isi1 h1.ty (by decide) rfl ?_
    walk_at "g"
    refine isi1 h2.ty (by decide) rfl ?_
    walk_at "g"
    refine iteQ (by simp) ?_
    walk_at "g"
    refine h1.len ?_
    walk_at "g"
    refine h2.len ?_
    walk_at "g"
    refine iteQ (by simp [hl]) ?_
    walk_at "g"
    refine we_froz 0 (we_lcM (fun _ => .bl true) N (by walk_at "tg") (by walk_at "ok") (wi_range1 rfl (by assumption) ?_))
    walk_at "g"
    refine h2.len ?_
    walk_at "g"
    refine ⟨by omega, by omega, ?_, fun _ _ => trivial, ?_, ?_⟩
    · rw [rangeD_len, Int.toNat_natCast]
      exact Nat.le_trans hz (by decide)
    · intro i x acc p hd
      obtain ⟨hi, rfl⟩ := rangeD_inv hd
      rw [Int.toNat_natCast] at hi
      refine ⟨_, rfl, fun B => ?_⟩
      have e1 : ds[i]? = some (ds[i]'(by omega)) := List.getElem?_eq_getElem _
      have e2 : es[i]? = some (es[i]'hi) := List.getElem?_eq_getElem _
      walk_at "g"
      refine h1.cons.ix (by rw [Int.zero_add]; exact atI_nat e1) ?_
      walk_at "g"
      refine h2.cons.ix (by rw [Int.zero_add]; exact atI_nat e2) ?_
      walk_at "g"
      exact ⟨_, _, rfl, (ha i _ _ e1 e2).cons, rfl, rfl⟩
    · intro p
      refine ⟨p, _, rfl, rfl, ?_⟩
      walk_at "g"
      refine ⟨_, List.replicate es.length true, rfl, ?_, ?_⟩
      · rw [show (List.map D.bl (List.replicate es.length true)) = List.map (fun _ => D.bl true) (rangeD 0 (↑es.length : Int).toNat) from by
          rw [Int.toNat_natCast, List.map_replicate, List.map_const', rangeD_len]]
        exact .l
      · have e : (List.replicate es.length true).all id = true := by simp
        rw [e]
        exact q
end
/-! TxtB -/
def TIntIn : TSp := fun ds M Q _ => ∃ z : Str, ds = [.str z] ∧ ((∃ i : Int, z = wordI i ∧ i.natAbs ≤ 10 ^ 30 ∧ Q (.int i) M) ∨ (z = Str.ofString "-" ∧ Q .non M))
theorem TIntIn_mono : Mono TIntIn := fun ds M Q Q' E E' h _ ⟨z, h1, h2⟩ => ⟨z, h1, h2.elim (fun ⟨i, a, b, c⟩ => .inl ⟨i, a, b, h _ _ c⟩) fun ⟨a, b⟩ => .inr ⟨a, h _ _ b⟩⟩
theorem TIntIn_len : ∀ ds M Q E, TIntIn ds M Q E → ds.length = 1 := fun ds M Q E h => by obtain ⟨_, rfl, _⟩ := h; rfl
section
variable {P : Program} {w : World} {K : PySem.W.Frag} {mg : Str → Option Value} {base : Heap}
local macro_rules | `(tactic| walk_at "ok") => `(tactic| first
  | ((show BlkOk N_integer_in (defScope st_integer_in) _ _); exact blkOk_by (by decide +kernel)))
local macro_rules | `(tactic| walk_at "n") => `(tactic| first
  | ((with_reducible show WE _ _ (Expr.Name "word" _) _ _ _); refine we_name (i := 0) rfl (by first | exact .inl rfl | exact .inr (.inl rfl) | exact .inr (.inr rfl)) rfl ?_)
  | ((with_reducible show WE _ _ (Expr.Name "figures" _) _ _ _); refine we_name (i := 1) rfl (by first | exact .inl rfl | exact .inr (.inl rfl) | exact .inr (.inr rfl)) rfl ?_)
  | ((with_reducible show WE _ _ (Expr.Name "sign" _) _ _ _); refine we_name (i := 2) rfl (by first | exact .inl rfl | exact .inr (.inl rfl) | exact .inr (.inr rfl)) rfl ?_)
  | ((with_reducible show WE _ _ (Expr.Name "DIGITS" _) _ _ _); refine we_globS rfl (by assumption) ?_)
  | ((with_reducible show WE _ _ (Expr.Name "MOST" _) _ _ _); refine we_globI rfl (by assumption) ?_)
  | ((with_reducible show WE _ _ (Expr.Name "MOST_DIGITS" _) _ _ _); refine we_globI rfl (by assumption) ?_)
  | ((with_reducible show WE _ _ (Expr.Name "int" _) _ _ _); refine we_bltn (v := .ty "int") rfl (by assumption) (by decide +kernel) rfl ?_))
local macro_rules | `(tactic| walk_at "t") => `(tactic| first
  | ((with_reducible show WS _ _ (Stmt.Assign [Expr.Name "word" _] _ _) _ _ _); refine ws_set (i := 0) (by assumption) rfl (by first | exact .inl rfl | exact .inr rfl) ?_)
  | ((with_reducible show WG _ _ (Expr.Name "word" _) _ _ _ _); refine wg_name (i := 0) (by assumption) rfl (by first | exact .inl rfl | exact .inr rfl) ?_)
  | ((with_reducible show WS _ _ (Stmt.Assign [Expr.Name "figures" _] _ _) _ _ _); refine ws_set (i := 1) (by assumption) rfl (by first | exact .inl rfl | exact .inr rfl) ?_)
  | ((with_reducible show WG _ _ (Expr.Name "figures" _) _ _ _ _); refine wg_name (i := 1) (by assumption) rfl (by first | exact .inl rfl | exact .inr rfl) ?_)
  | ((with_reducible show WS _ _ (Stmt.Assign [Expr.Name "sign" _] _ _) _ _ _); refine ws_set (i := 2) (by assumption) rfl (by first | exact .inl rfl | exact .inr rfl) ?_)
  | ((with_reducible show WG _ _ (Expr.Name "sign" _) _ _ _ _); refine wg_name (i := 2) (by assumption) rfl (by first | exact .inl rfl | exact .inr rfl) ?_)
  | ((with_reducible show WS _ _ (Stmt.Assign [Expr.Tuple _ _ _] _ _) _ _ _); refine ws_asg ?_))
local macro_rules | `(tactic| walk_at "tg") => `(tactic| first
  | exact Tg.one (i := 2) rfl rfl)
theorem fn_integer_in {f : Addr} {fd : FuncData} (b_int : mg "int" = none) (b_len : mg "len" = none) (c1 : ∃ t, mg "DIGITS" = some (.str "0123456789" t)) (c2 : ∃ t, mg "MOST_DIGITS" = some (.int 31 t)) (c3 : ∃ t, mg "MOST" = some (.int 1000000000000000000000000000000 t))
    (Fn : L2.Fun K "integer_in" "integer_in" st_integer_in f fd) :
    FnOk P w K mg base (L2.CX P w) 1 f fd ["word"] (spG K TIntIn) := by
  refine fn_ok Fn sc_integer_in rfl TIntIn_len ?_
  intro cdv A outer s H E N hr ds M Q X' h
  obtain ⟨z, rfl, h⟩ := h
  show WB _ _ _ [some _, none, none] _ _
  refine wb_cons ?_
  walk_at "t"
  rcases h with ⟨i, rfl, hi, q⟩ | ⟨rfl, q⟩
  · have hl := word_len hi
    have hl2 := figs_len hi
    have hs : (wordI i).length ≤ sizeLine := Nat.le_trans hl (by decide)
    have hs2 : (figs i).length ≤ sizeLine := Nat.le_trans hl2.2 (by decide)
    refine WE.cut (Q := fun d M' => d = .str (figs i) ∧ M' = M) ?_ ?_
    · walk_at "g"
      any_goals exact hs
      refine iteD (fun h0 => ?_) (fun h0 => ?_)
      · walk_at "g"
        any_goals exact hs
        rw [cut_figs ((head_dash i).mp h0)]
        exact ⟨rfl, rfl⟩
      · walk_at "g"
        rw [pos_figs (fun z => h0 ((head_dash i).mpr z))]
        exact ⟨rfl, rfl⟩
    · rintro _ _ ⟨rfl, rfl⟩
      walk_at "g"
      any_goals exact hs2
      refine iteP (decide_eq_true (by omega)) ?_
      walk_at "g"
      refine iteQ (by rw [decide_eq_true (by omega)]; rfl) ?_
      walk_at "g"
      refine we_froz 0 (we_lcF (fun _ => false) id N (by walk_at "tg") (by walk_at "ok") (wi_str ?_))
      walk_at "g"
      refine ⟨_, rfl, ?_, fun _ _ => trivial, ?_, ?_⟩
      · rw [strD, List.length_map]
        rw [Str.length, ← Array.length_toList] at hs2
        exact hs2
      · intro j d acc p hd
        obtain ⟨c, hc, rfl⟩ : ∃ c, c ∈ (figs i).cps.toList ∧ d = .str ⟨#[c]⟩ := by
          have := List.mem_of_getElem? hd
          obtain ⟨c, h1, h2⟩ := List.mem_map.mp this
          exact ⟨c, h1, h2.symm⟩
        refine ⟨_, rfl, fun B => ?_⟩
        walk_at "g"
        refine .inr ⟨_, _, rfl, rfl, ?_⟩
        rw [if_pos rfl, decide_eq_true (figs_in hc)]
        exact ⟨_, rfl, rfl, rfl, fun z => absurd z (by decide)⟩
      · intro p
        refine ⟨p, _, rfl, rfl, ?_⟩
        have e0 : List.map id (List.filter (fun _ => false) (strD (figs i))) = [] := by simp
        rw [e0]
        walk_at "g"
        refine req_dN (p := .list []) (q := .list []) (.fz rfl) (.fz rfl) rfl rfl ?_
        walk_at "g"
        obtain ⟨c, cs, ec⟩ := List.exists_cons_of_ne_nil (show tl (figs i) ≠ [] by rw [tl_figs]; exact numL_ne _)
        refine .inr (.inr ⟨_, _, c, rfl, rfl, hs2, by show atI (tl (figs i)) 0 = _; rw [ec]; exact atI_nat (j := 0) rfl, ?_⟩)
        walk_at "g"
        refine iteD (fun h1 => ?_) (fun h1 => ?_)
        · have h0 := figs_nought ec h1
          subst h0
          walk_at "g"
          refine .inr (.inr ⟨_, _, rfl, figs_val hi, by omega, ?_⟩)
          walk_at "g"
          any_goals exact hs
          refine .inr (.inr ⟨_, _, rfl, figs_val hi, by omega, ?_⟩)
          exact q
        · walk_at "g"
          refine .inr (.inr ⟨_, _, rfl, figs_val hi, by omega, ?_⟩)
          walk_at "g"
          refine iteQ (decide_eq_false (by omega)) ?_
          walk_at "g"
          any_goals exact hs
          refine iteD (fun h2 => ?_) (fun h2 => ?_)
          · have h3 := (head_dash i).mp h2
            walk_at "g"
            refine .inr (.inr ⟨_, _, rfl, figs_val hi, by omega, ?_⟩)
            walk_at "g"
            rw [show -(i.natAbs : Int) = i by omega]
            exact q
          · have h3 : ¬ i < 0 := fun z => h2 ((head_dash i).mpr z)
            walk_at "g"
            refine .inr (.inr ⟨_, _, rfl, figs_val hi, by omega, ?_⟩)
            rw [show (i.natAbs : Int) = i by omega]
            exact q
  · refine WE.cut (Q := fun d M' => d = .str Str.empty ∧ M' = M) ?_ ?_
    · walk_at "g"
      any_goals decide
      refine ⟨?_, rfl⟩
      rw [show cutS (Str.ofString "-") (some 1) none = Str.empty from by rw [str_eq, cut_rest, tl_dash]; rfl]
    · rintro _ _ ⟨rfl, rfl⟩
      walk_at "g"
      any_goals decide
      exact q
end
/-! TxtC -/
theorem tint {z : Str} {M : Cells} {Q : D → Cells → Prop} {E : Ex → Cells → Prop} (h : GoodW z) (q : Q (valD (.str z)) M) : TIntIn [.str z] M Q E := by
  rcases h with ⟨i, rfl, hi⟩ | rfl
  · exact ⟨_, rfl, .inl ⟨i, rfl, hi, by rw [← valD_word hi]; exact q⟩⟩
  · exact ⟨_, rfl, .inr ⟨rfl, by rw [← valD_dash]; exact q⟩⟩
theorem tint_o {o : Option Int} {M : Cells} {Q : D → Cells → Prop} {E : Ex → Cells → Prop} (h : ∀ i, o = some i → Small i) (q : Q (optD o) M) : TIntIn [.str (optW o)] M Q E := tint (optW_good h) (by rw [optW_val h]; exact q)
theorem tint_i {i : Int} {M : Cells} {Q : D → Cells → Prop} {E : Ex → Cells → Prop} (h : Small i) (q : Q (.int i) M) : TIntIn [.str (wordI i)] M Q E := tint (.inl ⟨i, rfl, h⟩) (by rw [valD_word h]; exact q)
def TItem : TSp := fun ds M Q _ => ∃ x v : Int, ds = [.str (itemW x v)] ∧ Small x ∧ Small v ∧ Q (.tup [.int x, .int v]) M
theorem TItem_mono : Mono TItem := fun ds M Q Q' E E' h _ ⟨x, v, h1, h2, h3, h4⟩ => ⟨x, v, h1, h2, h3, h _ _ h4⟩
theorem TItem_len : ∀ ds M Q E, TItem ds M Q E → ds.length = 1 := fun ds M Q E h => by obtain ⟨_, _, rfl, _⟩ := h; rfl
section
variable {P : Program} {w : World} {K : PySem.W.Frag} {mg : Str → Option Value} {base : Heap}
local macro_rules | `(tactic| walk_at "ok") => `(tactic| first
  | ((show BlkOk N_item_in (defScope st_item_in) _ _); exact blkOk_by (by decide +kernel)))
local macro_rules | `(tactic| walk_at "n") => `(tactic| first
  | ((with_reducible show WE _ _ (Expr.Name "word" _) _ _ _); refine we_name (i := 0) rfl (by first | exact .inl rfl | exact .inr (.inl rfl) | exact .inr (.inr rfl)) rfl ?_)
  | ((with_reducible show WE _ _ (Expr.Name "parts" _) _ _ _); refine we_name (i := 1) rfl (by first | exact .inl rfl | exact .inr (.inl rfl) | exact .inr (.inr rfl)) rfl ?_)
  | ((with_reducible show WE _ _ (Expr.Name "part" _) _ _ _); refine we_name (i := 2) rfl (by first | exact .inl rfl | exact .inr (.inl rfl) | exact .inr (.inr rfl)) rfl ?_))
local macro_rules | `(tactic| walk_at "t") => `(tactic| first
  | ((with_reducible show WS _ _ (Stmt.Assign [Expr.Name "word" _] _ _) _ _ _); refine ws_set (i := 0) (by assumption) rfl (by first | exact .inl rfl | exact .inr rfl) ?_)
  | ((with_reducible show WG _ _ (Expr.Name "word" _) _ _ _ _); refine wg_name (i := 0) (by assumption) rfl (by first | exact .inl rfl | exact .inr rfl) ?_)
  | ((with_reducible show WS _ _ (Stmt.Assign [Expr.Name "parts" _] _ _) _ _ _); refine ws_set (i := 1) (by assumption) rfl (by first | exact .inl rfl | exact .inr rfl) ?_)
  | ((with_reducible show WG _ _ (Expr.Name "parts" _) _ _ _ _); refine wg_name (i := 1) (by assumption) rfl (by first | exact .inl rfl | exact .inr rfl) ?_)
  | ((with_reducible show WS _ _ (Stmt.Assign [Expr.Name "part" _] _ _) _ _ _); refine ws_set (i := 2) (by assumption) rfl (by first | exact .inl rfl | exact .inr rfl) ?_)
  | ((with_reducible show WG _ _ (Expr.Name "part" _) _ _ _ _); refine wg_name (i := 2) (by assumption) rfl (by first | exact .inl rfl | exact .inr rfl) ?_)
  | ((with_reducible show WS _ _ (Stmt.Assign [Expr.Tuple _ _ _] _ _) _ _ _); refine ws_asg ?_))
local macro_rules | `(tactic| walk_at "c") => `(tactic| first
  | ((with_reducible show WE _ _ (Expr.Call (Expr.Name "integer_in" _) _ [] _) _ _ _); refine we_call (x := "integer_in") (by assumption) (by walk_at "r") rfl ?_))
local macro_rules | `(tactic| walk_at "tg") => `(tactic| first
  | exact Tg.one (i := 2) rfl rfl)
theorem fn_item_in {f : Addr} {fd : FuncData} (b_len : mg "len" = none) (d_int : FD P w K mg base 1 "integer_in" 1 TIntIn)
    (Fn : L2.Fun K "item_in" "item_in" st_item_in f fd) :
    FnOk P w K mg base (L2.CX P w) 2 f fd ["word"] (spG K TItem) := by
  refine fn_ok Fn sc_item_in rfl TItem_len ?_
  intro cdv A outer s H E N hr ds M Q X' h
  obtain ⟨x, v, rfl, hx, hv, q⟩ := h
  show WB _ _ _ [some _, none, none] _ _
  refine wb_cons ?_
  refine ws_setLC (i := 1) N rfl rfl (lc_froz 0 (lc_lcM valD N (by walk_at "tg") (by walk_at "ok") (wi_list ?_)))
  walk_at "g"
  refine ⟨_, rfl, ?_⟩
  walk_at "g"
  refine ⟨_, rfl, by decide, by have := item_len hx hv; rw [sizeLine_eq]; omega, _, .l, ?_⟩
  rw [show Txt.split (itemW x v) (Str.ofString ":") = [wordI x, wordI v] from item_split]
  refine ⟨by show 2 ≤ sizeLine; decide, fun _ _ => .l, ?_, ?_⟩
  · intro i d acc p hd
    obtain ⟨z, hz, rfl⟩ : ∃ z, GoodW z ∧ d = .str z := by
      have := List.mem_of_getElem? hd
      simp at this
      rcases this with rfl | rfl
      · exact ⟨_, .inl ⟨x, rfl, hx⟩, rfl⟩
      · exact ⟨_, .inl ⟨v, rfl, hv⟩, rfl⟩
    refine ⟨_, rfl, fun B => ?_⟩
    walk_at "g"
    exact tint hz ⟨rfl, rfl⟩
  · intro p
    refine ⟨p, _, rfl, rfl, ?_⟩
    rw [show List.map valD (List.map D.str [wordI x, wordI v]) = [.int x, .int v] by simp [valD_word hx, valD_word hv]]
    walk_at "g"
    refine iteQ (by simp) ?_
    walk_at "g"
    refine .inl ⟨.non, [.int x, .int v], rfl, .inl .l, rfl, rfl, ?_⟩
    refine ⟨false, rfl, ?_⟩
    walk_at "g"
    exact q
end
def optG (o : Option Int) : Prop := ∀ i, o = some i → Small i
theorem some_ok {i : Int} (h : Small i) : optG (some i) := fun j e => by cases e; exact h
/-- words of small integers and dashes, in a row -/
def rowW (os : List (Option Int)) : Str := Txt.join blank (os.map optW)
theorem rowW_split {os : List (Option Int)} (h : os ≠ []) : Txt.split (rowW os) blank = os.map optW :=
  blank_split (by simpa using h) fun p hp => by
    obtain ⟨o, _, rfl⟩ := List.mem_map.mp hp
    exact optW_free (by decide)
theorem rowW_len {os : List (Option Int)} (h : ∀ o ∈ os, optG o) (hl : os.length ≤ 100) : (rowW os).length ≤ 7100 := by
  have := join_len blank (os.map optW) (fun p hp => by
    obtain ⟨o, ho, rfl⟩ := List.mem_map.mp hp
    have := optW_len (h o ho); omega)
  rw [List.length_map] at this
  have e : blank.length = 1 := by rw [len_tl, tl_blank]; rfl
  rw [e] at this
  unfold rowW
  omega
def TReadF : TSp := fun ds M Q _ => ∃ is : List Int, ds = [.str (rowW (is.map some))] ∧ is ≠ [] ∧ is.length ≤ 41 ∧ (∀ i ∈ is, Small i) ∧ ∀ p, Q (.cel p) ((p, .lst (is.map D.int)) :: M)
theorem TReadF_mono : Mono TReadF := fun ds M Q Q' E E' h _ ⟨is, h1, h2, h3, h4, h5⟩ => ⟨is, h1, h2, h3, h4, fun p => h _ _ (h5 p)⟩
theorem TReadF_len : ∀ ds M Q E, TReadF ds M Q E → ds.length = 1 := fun ds M Q E h => by obtain ⟨_, rfl, _⟩ := h; rfl
section
variable {P : Program} {w : World} {K : PySem.W.Frag} {mg : Str → Option Value} {base : Heap}
local macro_rules | `(tactic| walk_at "ok") => `(tactic| first
  | ((show BlkOk N_read_formula (defScope st_read_formula) _ _); exact blkOk_by (by decide +kernel)))
local macro_rules | `(tactic| walk_at "n") => `(tactic| first
  | ((with_reducible show WE _ _ (Expr.Name "text" _) _ _ _); refine we_name (i := 0) rfl (by first | exact .inl rfl | exact .inr (.inl rfl) | exact .inr (.inr rfl)) rfl ?_)
  | ((with_reducible show WE _ _ (Expr.Name "found" _) _ _ _); refine we_name (i := 1) rfl (by first | exact .inl rfl | exact .inr (.inl rfl) | exact .inr (.inr rfl)) rfl ?_)
  | ((with_reducible show WE _ _ (Expr.Name "number" _) _ _ _); refine we_name (i := 2) rfl (by first | exact .inl rfl | exact .inr (.inl rfl) | exact .inr (.inr rfl)) rfl ?_)
  | ((with_reducible show WE _ _ (Expr.Name "word" _) _ _ _); refine we_name (i := 3) rfl (by first | exact .inl rfl | exact .inr (.inl rfl) | exact .inr (.inr rfl)) rfl ?_)
  | ((with_reducible show WE _ _ (Expr.Name "value" _) _ _ _); refine we_name (i := 4) rfl (by first | exact .inl rfl | exact .inr (.inl rfl) | exact .inr (.inr rfl)) rfl ?_)
  | ((with_reducible show WE _ _ (Expr.Name "MOST_FORMULA" _) _ _ _); refine we_globI rfl (by assumption) ?_))
local macro_rules | `(tactic| walk_at "t") => `(tactic| first
  | ((with_reducible show WS _ _ (Stmt.Assign [Expr.Name "text" _] _ _) _ _ _); refine ws_set (i := 0) (by assumption) rfl (by first | exact .inl rfl | exact .inr rfl) ?_)
  | ((with_reducible show WG _ _ (Expr.Name "text" _) _ _ _ _); refine wg_name (i := 0) (by assumption) rfl (by first | exact .inl rfl | exact .inr rfl) ?_)
  | ((with_reducible show WS _ _ (Stmt.Assign [Expr.Name "found" _] _ _) _ _ _); refine ws_set (i := 1) (by assumption) rfl (by first | exact .inl rfl | exact .inr rfl) ?_)
  | ((with_reducible show WG _ _ (Expr.Name "found" _) _ _ _ _); refine wg_name (i := 1) (by assumption) rfl (by first | exact .inl rfl | exact .inr rfl) ?_)
  | ((with_reducible show WS _ _ (Stmt.Assign [Expr.Name "number" _] _ _) _ _ _); refine ws_set (i := 2) (by assumption) rfl (by first | exact .inl rfl | exact .inr rfl) ?_)
  | ((with_reducible show WG _ _ (Expr.Name "number" _) _ _ _ _); refine wg_name (i := 2) (by assumption) rfl (by first | exact .inl rfl | exact .inr rfl) ?_)
  | ((with_reducible show WS _ _ (Stmt.Assign [Expr.Name "word" _] _ _) _ _ _); refine ws_set (i := 3) (by assumption) rfl (by first | exact .inl rfl | exact .inr rfl) ?_)
  | ((with_reducible show WG _ _ (Expr.Name "word" _) _ _ _ _); refine wg_name (i := 3) (by assumption) rfl (by first | exact .inl rfl | exact .inr rfl) ?_)
  | ((with_reducible show WS _ _ (Stmt.Assign [Expr.Name "value" _] _ _) _ _ _); refine ws_set (i := 4) (by assumption) rfl (by first | exact .inl rfl | exact .inr rfl) ?_)
  | ((with_reducible show WG _ _ (Expr.Name "value" _) _ _ _ _); refine wg_name (i := 4) (by assumption) rfl (by first | exact .inl rfl | exact .inr rfl) ?_)
  | ((with_reducible show WS _ _ (Stmt.Assign [Expr.Tuple _ _ _] _ _) _ _ _); refine ws_asg ?_))
local macro_rules | `(tactic| walk_at "c") => `(tactic| first
  | ((with_reducible show WE _ _ (Expr.Call (Expr.Name "integer_in" _) _ [] _) _ _ _); refine we_call (x := "integer_in") (by assumption) (by walk_at "r") rfl ?_))
theorem fn_read_formula {f : Addr} {fd : FuncData} (b_enum : mg "enumerate" = none) (c1 : ∃ t, mg "MOST_FORMULA" = some (.int 41 t)) (d_int : FD P w K mg base 1 "integer_in" 1 TIntIn)
    (Fn : L2.Fun K "read_formula" "read_formula" st_read_formula f fd) :
    FnOk P w K mg base (L2.CX P w) 2 f fd ["text"] (spG K TReadF) := by
  refine fn_ok Fn sc_read_formula rfl TReadF_len ?_
  intro cdv A outer s H E N hr ds M Q X' h
  obtain ⟨is, rfl, hne, hl, hs, q⟩ := h
  have hsp := rowW_split (os := is.map some) (by simpa using hne)
  have hln := rowW_len (os := is.map some) (fun o ho => by obtain ⟨i, hi, rfl⟩ := List.mem_map.mp ho; exact some_ok (hs i hi)) (by rw [List.length_map]; omega)
  show WB _ _ _ [some _, none, none, none, none] _ _
  refine wb_cons ?_
  walk_at "t"
  refine we_lstC ?_
  walk_at "g"
  intro p
  walk_at "g"
  refine ws_for N (wi_enum rfl (by assumption) ?_)
  walk_at "g"
  refine ⟨_, rfl, ?_⟩
  walk_at "g"
  refine ⟨_, rfl, by decide, by rw [sizeLine_eq]; omega, ?_⟩
  rw [show Txt.split (rowW (is.map some)) (Str.ofString " ") = (is.map some).map optW from hsp]
  walk_at "g"
  refine ⟨_, _, rfl, .l, fun j δ' M' => ∃ x2 x3 x4 : Option D, δ' = [some (.str (rowW (is.map some))), some (.cel p), x2, x3, x4] ∧ M' = (p, .lst ((is.take j).map D.int)) :: M, ?_, ?_, ?_, ?_⟩
  · exact ⟨none, none, none, rfl, by simp⟩
  · intro j δ' M' _ _
    exact .l
  · rintro j d δ' M' hd ⟨x2, x3, x4, rfl, rfl⟩
    obtain ⟨d, hx, rfl⟩ := enumD_inv hd
    rw [List.map_map, List.map_map, List.getElem?_map] at hx
    cases e : is[j]? with
    | none => rw [e] at hx; cases hx
    | some i =>
      rw [e] at hx
      cases hx
      have hi := hs i (List.mem_of_getElem? e)
      have hj := (List.getElem?_eq_some_iff.mp e).1
      walk_at "g"
      refine tint_i hi ?_
      walk_at "g"
      refine iteQ (decide_eq_false (by omega)) ?_
      walk_at "g"
      refine ⟨by rw [List.length_map, List.length_take, sizeLine_eq]; omega, _, _, _, rfl, ?_⟩
      rw [List.take_succ, e]
      simp
  · rintro δ' M' ⟨x2, x3, x4, rfl, rfl⟩
    walk_at "g"
    rw [enumD_len, List.length_map, List.length_map, List.length_map, List.take_length]
    exact q p
end
/-! TxtD -/
/-- a gap table's rests -/
def RestOk (n : Nat) (o : Option Int) : Prop := ∀ i, o = some i → 0 ≤ i ∧ i < n
def TReadT : TSp := fun ds M Q _ => ∃ os : List (Option Int), ds = [.str (rowW os)] ∧ os ≠ [] ∧ os.length ≤ 60 ∧ (∀ o ∈ os, RestOk os.length o) ∧ ∀ p, Q (.cel p) ((p, .lst (os.map optD)) :: M)
theorem TReadT_mono : Mono TReadT := fun ds M Q Q' E E' h _ ⟨is, h1, h2, h3, h4, h5⟩ => ⟨is, h1, h2, h3, h4, fun p => h _ _ (h5 p)⟩
theorem TReadT_len : ∀ ds M Q E, TReadT ds M Q E → ds.length = 1 := fun ds M Q E h => by obtain ⟨_, rfl, _⟩ := h; rfl
section
variable {P : Program} {w : World} {K : PySem.W.Frag} {mg : Str → Option Value} {base : Heap}
local macro_rules | `(tactic| walk_at "ok") => `(tactic| first
  | ((show BlkOk N_read_table (defScope st_read_table) _ _); exact blkOk_by (by decide +kernel)))
local macro_rules | `(tactic| walk_at "n") => `(tactic| first
  | ((with_reducible show WE _ _ (Expr.Name "text" _) _ _ _); refine we_name (i := 0) rfl (by first | exact .inl rfl | exact .inr (.inl rfl) | exact .inr (.inr rfl)) rfl ?_)
  | ((with_reducible show WE _ _ (Expr.Name "found" _) _ _ _); refine we_name (i := 1) rfl (by first | exact .inl rfl | exact .inr (.inl rfl) | exact .inr (.inr rfl)) rfl ?_)
  | ((with_reducible show WE _ _ (Expr.Name "number" _) _ _ _); refine we_name (i := 2) rfl (by first | exact .inl rfl | exact .inr (.inl rfl) | exact .inr (.inr rfl)) rfl ?_)
  | ((with_reducible show WE _ _ (Expr.Name "word" _) _ _ _); refine we_name (i := 3) rfl (by first | exact .inl rfl | exact .inr (.inl rfl) | exact .inr (.inr rfl)) rfl ?_)
  | ((with_reducible show WE _ _ (Expr.Name "rest" _) _ _ _); refine we_name (i := 4) rfl (by first | exact .inl rfl | exact .inr (.inl rfl) | exact .inr (.inr rfl)) rfl ?_)
  | ((with_reducible show WE _ _ (Expr.Name "MOST_TABLE" _) _ _ _); refine we_globI rfl (by assumption) ?_))
local macro_rules | `(tactic| walk_at "t") => `(tactic| first
  | ((with_reducible show WS _ _ (Stmt.Assign [Expr.Name "text" _] _ _) _ _ _); refine ws_set (i := 0) (by assumption) rfl (by first | exact .inl rfl | exact .inr rfl) ?_)
  | ((with_reducible show WG _ _ (Expr.Name "text" _) _ _ _ _); refine wg_name (i := 0) (by assumption) rfl (by first | exact .inl rfl | exact .inr rfl) ?_)
  | ((with_reducible show WS _ _ (Stmt.Assign [Expr.Name "found" _] _ _) _ _ _); refine ws_set (i := 1) (by assumption) rfl (by first | exact .inl rfl | exact .inr rfl) ?_)
  | ((with_reducible show WG _ _ (Expr.Name "found" _) _ _ _ _); refine wg_name (i := 1) (by assumption) rfl (by first | exact .inl rfl | exact .inr rfl) ?_)
  | ((with_reducible show WS _ _ (Stmt.Assign [Expr.Name "number" _] _ _) _ _ _); refine ws_set (i := 2) (by assumption) rfl (by first | exact .inl rfl | exact .inr rfl) ?_)
  | ((with_reducible show WG _ _ (Expr.Name "number" _) _ _ _ _); refine wg_name (i := 2) (by assumption) rfl (by first | exact .inl rfl | exact .inr rfl) ?_)
  | ((with_reducible show WS _ _ (Stmt.Assign [Expr.Name "word" _] _ _) _ _ _); refine ws_set (i := 3) (by assumption) rfl (by first | exact .inl rfl | exact .inr rfl) ?_)
  | ((with_reducible show WG _ _ (Expr.Name "word" _) _ _ _ _); refine wg_name (i := 3) (by assumption) rfl (by first | exact .inl rfl | exact .inr rfl) ?_)
  | ((with_reducible show WS _ _ (Stmt.Assign [Expr.Name "rest" _] _ _) _ _ _); refine ws_set (i := 4) (by assumption) rfl (by first | exact .inl rfl | exact .inr rfl) ?_)
  | ((with_reducible show WG _ _ (Expr.Name "rest" _) _ _ _ _); refine wg_name (i := 4) (by assumption) rfl (by first | exact .inl rfl | exact .inr rfl) ?_)
  | ((with_reducible show WS _ _ (Stmt.Assign [Expr.Tuple _ _ _] _ _) _ _ _); refine ws_asg ?_))
local macro_rules | `(tactic| walk_at "c") => `(tactic| first
  | ((with_reducible show WE _ _ (Expr.Call (Expr.Name "integer_in" _) _ [] _) _ _ _); refine we_call (x := "integer_in") (by assumption) (by walk_at "r") rfl ?_))
local macro_rules | `(tactic| walk_at "tg") => `(tactic| first
  | exact Tg.one (i := 4) rfl rfl)
theorem fn_read_table {f : Addr} {fd : FuncData} (b_len : mg "len" = none) (b_enum : mg "enumerate" = none) (c1 : ∃ t, mg "MOST_TABLE" = some (.int 60 t)) (d_int : FD P w K mg base 1 "integer_in" 1 TIntIn)
    (Fn : L2.Fun K "read_table" "read_table" st_read_table f fd) :
    FnOk P w K mg base (L2.CX P w) 2 f fd ["text"] (spG K TReadT) := by
  refine fn_ok Fn sc_read_table rfl TReadT_len ?_
  intro cdv A outer s H E N hr ds M Q X' h
  obtain ⟨os, rfl, hne, hl, hs, q⟩ := h
  have hs2 : ∀ o ∈ os, optG o := fun o ho i e => by have := hs o ho i e; show i.natAbs ≤ 10 ^ 30; omega
  have hsp := rowW_split hne
  have hln := rowW_len hs2 (by omega)
  show WB _ _ _ [some _, none, none, none, none] _ _
  refine wb_cons ?_
  walk_at "t"
  refine we_lstC ?_
  walk_at "g"
  intro p
  walk_at "g"
  refine ws_for N (wi_enum rfl (by assumption) ?_)
  walk_at "g"
  refine ⟨_, rfl, ?_⟩
  walk_at "g"
  refine ⟨_, rfl, by decide, by rw [sizeLine_eq]; omega, ?_⟩
  rw [show Txt.split (rowW os) (Str.ofString " ") = os.map optW from hsp]
  walk_at "g"
  refine ⟨_, _, rfl, .l, fun j δ' M' => ∃ x2 x3 x4 : Option D, δ' = [some (.str (rowW os)), some (.cel p), x2, x3, x4] ∧ M' = (p, .lst ((os.take j).map optD)) :: M, ?_, ?_, ?_, ?_⟩
  · exact ⟨none, none, none, rfl, by simp⟩
  · intro j δ' M' _ _
    exact .l
  · rintro j d δ' M' hd ⟨x2, x3, x4, rfl, rfl⟩
    obtain ⟨d, hx, rfl⟩ := enumD_inv hd
    rw [List.map_map, List.getElem?_map] at hx
    cases e : os[j]? with
    | none => rw [e] at hx; cases hx
    | some o =>
      obtain rfl : d = .str (optW o) := by rw [e] at hx; exact (Option.some.inj hx).symm
      have ho := List.mem_of_getElem? e
      have hj := (List.getElem?_eq_some_iff.mp e).1
      walk_at "g"
      refine tint_o (hs2 o ho) ?_
      walk_at "g"
      refine iteQ (decide_eq_false (by omega)) ?_
      have fin : ∀ x : Option D, ∃ x2 x3 x4 : Option D, [some (D.str (rowW os)), some (.cel p), some (.int (j : Nat)), some (.str (optW o)), some (optD o)] = [some (.str (rowW os)), some (.cel p), x2, x3, x4] ∧ (p, Cell.lst ((os.take j).map optD ++ [optD o])) :: M = (p, .lst ((os.take (j + 1)).map optD)) :: M := fun _ => ⟨_, _, _, rfl, by rw [List.take_succ, e]; simp⟩
      have hlt : ((os.take j).map optD).length < sizeLine := by rw [List.length_map, List.length_take, sizeLine_eq]; omega
      cases o with
      | none =>
        rw [show optD none = D.non from rfl, show optW none = Str.ofString "-" from rfl] at fin ⊢
        walk_at "g"
        exact ⟨hlt, fin none⟩
      | some i =>
        have hi := hs _ ho i rfl
        rw [show optD (some i) = D.int i from rfl, show optW (some i) = wordI i from rfl] at fin ⊢
        walk_at "g"
        refine iteP (by rw [decide_eq_false word_ne]; rfl) ?_
        walk_at "g"
        refine iteP (decide_eq_true hi.1) ?_
        walk_at "g"
        refine iteQ (by rw [decide_eq_true (by omega)]; rfl) ?_
        walk_at "g"
        exact ⟨hlt, fin none⟩
  · rintro δ' M' ⟨x2, x3, x4, rfl, rfl⟩
    rw [enumD_len, List.length_map, List.length_map, List.take_length]
    walk_at "g"
    refine we_froz 0 (we_lcF (fun _ => false) id N (by walk_at "tg") (by walk_at "ok") (wi_list ?_))
    walk_at "g"
    refine lv_cl ?_
    walk_at "g"
    refine ⟨by rw [List.length_map, sizeLine_eq]; omega, fun p' acc => .c 1 rfl, ?_, ?_⟩
    · intro j d acc p' hd
      obtain ⟨o, ho, rfl⟩ := List.mem_map.mp (List.mem_of_getElem? hd)
      cases o with
      | none =>
        refine ⟨_, rfl, fun B => ?_⟩
        rw [show optD none = D.non from rfl]
        walk_at "g"
        exact ⟨rfl, rfl, fun z => absurd z (by decide)⟩
      | some i =>
        have hi := hs _ ho i rfl
        refine ⟨_, rfl, fun B => ?_⟩
        rw [show optD (some i) = D.int i from rfl]
        walk_at "g"
        all_goals first | rfl | exact ⟨decide_eq_false (by rw [List.length_map]; omega), fun z => absurd z (by decide)⟩
    · intro p'
      refine ⟨p', _, rfl, rfl, ?_⟩
      rw [show List.map id (List.filter (fun _ => false) (os.map optD)) = [] by simp]
      walk_at "g"
      refine req_dN (p := .list []) (q := .list []) (.fz rfl) (.fz rfl) rfl rfl ?_
      walk_at "g"
      exact q p
end
def BookOk (xs : List (Int × Int)) : Prop := xs.length ≤ 24 ∧ (∀ x ∈ xs, Small x.1 ∧ Small x.2) ∧ (xs.map Prod.fst).Pairwise (· < ·)
def itemD (x : Int × Int) : D := .tup [.int x.1, .int x.2]
def bookD (xs : List (Int × Int)) : List D := xs.map itemD
def bookW (xs : List (Int × Int)) : Str := if xs = [] then Str.ofString "-" else Txt.join blank (xs.map fun x => itemW x.1 x.2)
theorem bookW_split {xs : List (Int × Int)} (h : xs ≠ []) : Txt.split (bookW xs) blank = xs.map fun x => itemW x.1 x.2 := by
  unfold bookW
  rw [if_neg h]
  exact blank_split (by simpa using h) fun p hp => by
    obtain ⟨o, _, rfl⟩ := List.mem_map.mp hp
    exact item_free
theorem bookW_nil : Txt.split (bookW []) blank = [Str.ofString "-"] := by
  have e : bookW [] = Txt.join blank [Str.ofString "-"] := by
    unfold bookW
    rw [if_pos rfl, str_eq, join_eq, tl_join]
    rfl
  rw [e]
  exact blank_split (by simp) fun p hp => by
    rw [List.mem_singleton] at hp
    subst hp
    rw [tl_dash]
    decide
theorem bookW_len {xs : List (Int × Int)} (h : BookOk xs) : (bookW xs).length ≤ 7100 := by
  unfold bookW
  split
  · decide
  · have := join_len blank (xs.map fun x => itemW x.1 x.2) (fun p hp => by
      obtain ⟨o, ho, rfl⟩ := List.mem_map.mp hp
      have := item_len (h.2.1 o ho).1 (h.2.1 o ho).2; omega)
    rw [List.length_map] at this
    have e : blank.length = 1 := by rw [len_tl, tl_blank]; rfl
    rw [e] at this
    have h1 := h.1
    have h2 : xs.length * (70 + 1) ≤ 24 * 71 := Nat.mul_le_mul h1 (Nat.le_refl _)
    omega
theorem okDs_book : ∀ xs : List (Int × Int), okDs (bookD xs) = true
  | [] => rfl
  | x :: xs => by
    show (okD (itemD x) && okDs (bookD xs)) = true
    rw [okDs_book xs]
    rfl
theorem lay_book : ∀ xs : List (Int × Int), PyData.canLayAll0 (pys (bookD xs)) = true
  | [] => by simp [bookD, pys, PyData.canLayAll0]
  | x :: xs => by
    show (PyData.canLayAll0 (.tuple [.int x.1, .int x.2] :: pys (bookD xs))) = true
    simp [PyData.canLayAll0, PyData.canLay0, lay_book xs]
theorem dep_book : ∀ xs : List (Int × Int), PyData.depthAll (pys (bookD xs)) ≤ 4
  | [] => by simp [bookD, pys, PyData.depthAll]
  | x :: xs => by
    have := dep_book xs
    show PyData.depthAll (.tuple [.int x.1, .int x.2] :: pys (bookD xs)) ≤ 4
    simp only [PyData.depthAll, PyData.depth]
    omega
theorem shaped_list {xs : List PyData} (h1 : PyData.canLayAll0 xs = true) (h2 : PyData.depthAll xs ≤ 60) : SeqAt.shaped (.list xs) = true := by
  have h3 : PyData.depth (.list xs) ≤ 64 := by simp only [PyData.depth]; omega
  unfold SeqAt.shaped
  rw [Bool.and_eq_true]
  exact ⟨by simp only [PyData.canLay0]; exact h1, decide_eq_true h3⟩
theorem shaped_book (xs : List (Int × Int)) : SeqAt.shaped (.list (pys (bookD xs))) = true := shaped_list (lay_book xs) (Nat.le_trans (dep_book xs) (by decide))
theorem itemW_ne {x v : Int} : itemW x v ≠ Str.ofString "-" := fun e => by
  have e' := congrArg tl e
  unfold itemW at e'
  rw [tl_append, tl_append, tl_colon, tl_dash] at e'
  have h : (58 : Nat) ∈ tl (wordI x) ++ [58] ++ tl (wordI v) := by simp
  rw [e'] at h
  exact absurd h (by decide)
def TReadB : TSp := fun ds M Q _ => ∃ xs : List (Int × Int), ds = [.str (bookW xs)] ∧ BookOk xs ∧ ∀ p, Q (.cel p) ((p, .lst (bookD xs)) :: M)
theorem TReadB_mono : Mono TReadB := fun ds M Q Q' E E' h _ ⟨is, h1, h2, h3⟩ => ⟨is, h1, h2, fun p => h _ _ (h3 p)⟩
theorem TReadB_len : ∀ ds M Q E, TReadB ds M Q E → ds.length = 1 := fun ds M Q E h => by obtain ⟨_, rfl, _⟩ := h; rfl
section
variable {P : Program} {w : World} {K : PySem.W.Frag} {mg : Str → Option Value} {base : Heap}
local macro_rules | `(tactic| walk_at "ok") => `(tactic| first
  | ((show BlkOk N_read_book (defScope st_read_book) _ _); exact blkOk_by (by decide +kernel)))
local macro_rules | `(tactic| walk_at "n") => `(tactic| first
  | ((with_reducible show WE _ _ (Expr.Name "text" _) _ _ _); refine we_name (i := 0) rfl (by first | exact .inl rfl | exact .inr (.inl rfl) | exact .inr (.inr rfl)) rfl ?_)
  | ((with_reducible show WE _ _ (Expr.Name "words" _) _ _ _); refine we_name (i := 1) rfl (by first | exact .inl rfl | exact .inr (.inl rfl) | exact .inr (.inr rfl)) rfl ?_)
  | ((with_reducible show WE _ _ (Expr.Name "found" _) _ _ _); refine we_name (i := 2) rfl (by first | exact .inl rfl | exact .inr (.inl rfl) | exact .inr (.inr rfl)) rfl ?_)
  | ((with_reducible show WE _ _ (Expr.Name "number" _) _ _ _); refine we_name (i := 3) rfl (by first | exact .inl rfl | exact .inr (.inl rfl) | exact .inr (.inr rfl)) rfl ?_)
  | ((with_reducible show WE _ _ (Expr.Name "word" _) _ _ _); refine we_name (i := 4) rfl (by first | exact .inl rfl | exact .inr (.inl rfl) | exact .inr (.inr rfl)) rfl ?_)
  | ((with_reducible show WE _ _ (Expr.Name "item" _) _ _ _); refine we_name (i := 5) rfl (by first | exact .inl rfl | exact .inr (.inl rfl) | exact .inr (.inr rfl)) rfl ?_)
  | ((with_reducible show WE _ _ (Expr.Name "MOST_ITEMS" _) _ _ _); refine we_globI rfl (by assumption) ?_))
local macro_rules | `(tactic| walk_at "t") => `(tactic| first
  | ((with_reducible show WS _ _ (Stmt.Assign [Expr.Name "text" _] _ _) _ _ _); refine ws_set (i := 0) (by assumption) rfl (by first | exact .inl rfl | exact .inr rfl) ?_)
  | ((with_reducible show WG _ _ (Expr.Name "text" _) _ _ _ _); refine wg_name (i := 0) (by assumption) rfl (by first | exact .inl rfl | exact .inr rfl) ?_)
  | ((with_reducible show WS _ _ (Stmt.Assign [Expr.Name "words" _] _ _) _ _ _); refine ws_set (i := 1) (by assumption) rfl (by first | exact .inl rfl | exact .inr rfl) ?_)
  | ((with_reducible show WG _ _ (Expr.Name "words" _) _ _ _ _); refine wg_name (i := 1) (by assumption) rfl (by first | exact .inl rfl | exact .inr rfl) ?_)
  | ((with_reducible show WS _ _ (Stmt.Assign [Expr.Name "found" _] _ _) _ _ _); refine ws_set (i := 2) (by assumption) rfl (by first | exact .inl rfl | exact .inr rfl) ?_)
  | ((with_reducible show WG _ _ (Expr.Name "found" _) _ _ _ _); refine wg_name (i := 2) (by assumption) rfl (by first | exact .inl rfl | exact .inr rfl) ?_)
  | ((with_reducible show WS _ _ (Stmt.Assign [Expr.Name "number" _] _ _) _ _ _); refine ws_set (i := 3) (by assumption) rfl (by first | exact .inl rfl | exact .inr rfl) ?_)
  | ((with_reducible show WG _ _ (Expr.Name "number" _) _ _ _ _); refine wg_name (i := 3) (by assumption) rfl (by first | exact .inl rfl | exact .inr rfl) ?_)
  | ((with_reducible show WS _ _ (Stmt.Assign [Expr.Name "word" _] _ _) _ _ _); refine ws_set (i := 4) (by assumption) rfl (by first | exact .inl rfl | exact .inr rfl) ?_)
  | ((with_reducible show WG _ _ (Expr.Name "word" _) _ _ _ _); refine wg_name (i := 4) (by assumption) rfl (by first | exact .inl rfl | exact .inr rfl) ?_)
  | ((with_reducible show WS _ _ (Stmt.Assign [Expr.Name "item" _] _ _) _ _ _); refine ws_set (i := 5) (by assumption) rfl (by first | exact .inl rfl | exact .inr rfl) ?_)
  | ((with_reducible show WG _ _ (Expr.Name "item" _) _ _ _ _); refine wg_name (i := 5) (by assumption) rfl (by first | exact .inl rfl | exact .inr rfl) ?_)
  | ((with_reducible show WS _ _ (Stmt.Assign [Expr.Tuple _ _ _] _ _) _ _ _); refine ws_asg ?_))
local macro_rules | `(tactic| walk_at "c") => `(tactic| first
  | ((with_reducible show WE _ _ (Expr.Call (Expr.Name "item_in" _) _ [] _) _ _ _); refine we_call (x := "item_in") (by assumption) (by walk_at "r") rfl ?_))
theorem fn_read_book {f : Addr} {fd : FuncData} (b_len : mg "len" = none) (b_enum : mg "enumerate" = none) (c1 : ∃ t, mg "MOST_ITEMS" = some (.int 24 t)) (d_item : FD P w K mg base 2 "item_in" 1 TItem)
    (Fn : L2.Fun K "read_book" "read_book" st_read_book f fd) :
    FnOk P w K mg base (L2.CX P w) 3 f fd ["text"] (spG K TReadB) := by
  refine fn_ok Fn sc_read_book rfl TReadB_len ?_
  intro cdv A outer s H E N hr ds M Q X' h
  obtain ⟨xs, rfl, hb, q⟩ := h
  have hln := bookW_len hb
  show WB _ _ _ [some _, none, none, none, none, none] _ _
  refine wb_cons ?_
  walk_at "g"
  refine ⟨_, rfl, ?_⟩
  walk_at "g"
  refine ⟨_, rfl, by decide, by rw [sizeLine_eq]; omega, ?_⟩
  by_cases hne : xs = []
  · subst hne
    rw [show Txt.split (bookW []) (Str.ofString " ") = [Str.ofString "-"] from bookW_nil]
    walk_at "g"
    refine we_lstC ?_
    walk_at "g"
    exact q
  · rw [show Txt.split (bookW xs) (Str.ofString " ") = xs.map fun x => itemW x.1 x.2 from bookW_split hne]
    walk_at "g"
    obtain ⟨x0, r0, e0⟩ := List.exists_cons_of_ne_nil hne
    refine ⟨.str (itemW x0.1 x0.2), by rw [e0]; exact atI_nat (j := 0) rfl, ?_⟩
    walk_at "g"
    refine iteQ (decide_eq_false itemW_ne) ?_
    walk_at "g"
    refine we_lstC ?_
    walk_at "g"
    intro p
    walk_at "g"
    refine ws_for N (wi_enum rfl (by assumption) ?_)
    walk_at "g"
    refine ⟨_, _, rfl, .l, fun j δ' M' => ∃ x2 x3 x4 : Option D, δ' = [some (.str (bookW xs)), some (.lst ((xs.map fun x => itemW x.1 x.2).map D.str)), some (.cel p), x2, x3, x4] ∧ M' = (p, .lst (bookD (xs.take j))) :: M, ?_, ?_, ?_, ?_⟩
    · exact ⟨none, none, none, rfl, by simp [bookD]⟩
    · intro j δ' M' _ _
      exact .l
    · rintro j d δ' M' hd ⟨x2, x3, x4, rfl, rfl⟩
      obtain ⟨d, hx, rfl⟩ := enumD_inv hd
      rw [List.map_map, List.getElem?_map] at hx
      cases e : xs[j]? with
      | none => rw [e] at hx; cases hx
      | some x =>
        obtain rfl : d = .str (itemW x.1 x.2) := by rw [e] at hx; exact (Option.some.inj hx).symm
        have ho := List.mem_of_getElem? e
        have hj := (List.getElem?_eq_some_iff.mp e).1
        have hlt : (bookD (xs.take j)).length < sizeLine := by
          unfold bookD
          rw [List.length_map, List.length_take, sizeLine_eq]
          have := hb.1
          omega
        have hj24 : ¬ ((j : Int) = 24) := by have := hb.1; omega
        have fin : ∀ (x3 x4 : Option D), ∃ y2 y3 y4 : Option D, [some (D.str (bookW xs)), some (.lst ((xs.map fun x => itemW x.1 x.2).map D.str)), some (.cel p), some (.int (j : Nat)), some (.str (itemW x.1 x.2)), some (.tup [.int x.1, .int x.2])] = [some (.str (bookW xs)), some (.lst ((xs.map fun x => itemW x.1 x.2).map D.str)), some (.cel p), y2, y3, y4] ∧ (p, Cell.lst (bookD (xs.take j) ++ [.tup [.int x.1, .int x.2]])) :: M = (p, .lst (bookD (xs.take (j + 1)))) :: M := fun _ _ => ⟨_, _, _, rfl, by rw [List.take_succ, e]; simp [bookD, itemD]⟩
        walk_at "g"
        refine ⟨x.1, x.2, rfl, (hb.2.1 x ho).1, (hb.2.1 x ho).2, ?_⟩
        walk_at "g"
        refine iteQ (decide_eq_false hj24) ?_
        walk_at "g"
        refine req_dN (p := .list (pys (bookD (xs.take j)))) (q := .list []) (.cl 0 rfl (okDs_book _)) (.fz rfl) (shaped_book _) rfl ?_
        cases j with
        | zero =>
          refine ⟨_, rfl, iteQ rfl ?_⟩
          walk_at "g"
          exact ⟨hlt, fin none none⟩
        | succ j =>
          have hj' : j < xs.length := by omega
          have e' : xs[j]? = some xs[j] := List.getElem?_eq_getElem hj'
          have et : bookD (xs.take (j + 1)) = bookD (xs.take j) ++ [.tup [.int xs[j].1, .int xs[j].2]] := by
            show (xs.take (j + 1)).map itemD = (xs.take j).map itemD ++ _
            rw [List.take_succ, e', List.map_append]; rfl
          have hord : xs[j].1 < x.1 := by
            have hx : x = xs[j + 1] := by rw [List.getElem?_eq_getElem hj] at e; exact (Option.some.inj e).symm
            have := List.pairwise_iff_getElem.mp hb.2.2 j (j + 1) (by simpa using hj') (by simpa using hj) (by omega)
            rw [hx]
            simpa using this
          refine ⟨_, rfl, ?_⟩
          refine iteP ?_ ?_
          · rw [et]
            cases hbd : bookD (xs.take j) with
            | nil => rfl
            | cons _ _ => rfl
          · walk_at "g"
            refine ⟨.tup [.int xs[j].1, .int xs[j].2], by rw [et]; exact atI_last _ _, ?_⟩
            walk_at "g"
            refine iteQ (decide_eq_false (by omega)) ?_
            walk_at "g"
            exact ⟨hlt, fin none none⟩
    · rintro δ' M' ⟨x2, x3, x4, rfl, rfl⟩
      rw [enumD_len, List.length_map, List.length_map, List.take_length]
      walk_at "g"
      exact q p
end
/-! TxtE -/
section
variable {X : Cx} {P : XP} {F : Hp} {M : Cells} {δ : Slots} {σ : L2.St} {H : Hp} {e : Expr}
theorem WE.drop {Q : D → Cells → Prop} (h : WE X P e δ M fun d M' => ∃ (p : Addr × Cell) (M0 : Cells), M' = p :: M0 ∧ Q d M0) : WE X P e δ M Q := fun σ H F G => h.go G fun v H1 F1 M1 d s1 G1 r1 q1 => by
  obtain ⟨p, M0, rfl, q⟩ := q1
  exact ret (G1.st.fewer (List.sublist_cons_self _ _)) s1 r1 q
theorem wb_drop {b : List Stmt} {E : En} {M0 : Cells} (hM : M0.Sublist M) (h : WB X P b δ M0 E) : WB X P b δ M E := fun σ H F G => h σ H F ⟨G.st.fewer hM, G.tk⟩
end
theorem tdraw {b : Addr} {wide : Int} {M : Cells} {Q : D → Cells → Prop} {E : Ex → Cells → Prop} (hw : 0 < wide) (hw2 : wide.natAbs < 2 ^ 2000) (h : CL M b fun L f => BagL L ∧ ∀ r L', 0 ≤ r → r < wide → BagL L' → Q (.int r) (f L')) : TDraw [.cel b, .int wide] M Q E := by
  obtain ⟨k, L, h1, h2, h3⟩ := h
  exact ⟨b, k, L, wide, rfl, h1, h2, hw, hw2, h3⟩
def TNum : TSp := fun ds M Q _ => ∃ b, ds = [.cel b] ∧ CL M b fun L f => BagL L ∧ ∀ i L', Small i → BagL L' → Q (.int i) (f L')
theorem CL.imp {M : Cells} {b : Addr} {R R' : List D → (List D → Cells) → Prop} (h : CL M b R) (k : ∀ L f, R L f → R' L f) : CL M b R' := let ⟨i, L, h1, h2⟩ := h; ⟨i, L, h1, k _ _ h2⟩
theorem TNum_mono : Mono TNum := fun ds M Q Q' E E' h _ ⟨b, h1, h2⟩ => ⟨b, h1, h2.imp fun L f ⟨h3, h4⟩ => ⟨h3, fun i L' a c => h _ _ (h4 i L' a c)⟩⟩
theorem TNum_len : ∀ ds M Q E, TNum ds M Q E → ds.length = 1 := fun ds M Q E h => by obtain ⟨_, rfl, _⟩ := h; rfl
section
variable {P : Program} {w : World} {K : PySem.W.Frag} {mg : Str → Option Value} {base : Heap}
local macro_rules | `(tactic| walk_at "ok") => `(tactic| first
  | ((show BlkOk N_l_number (defScope st_l_number) _ _); exact blkOk_by (by decide +kernel)))
local macro_rules | `(tactic| walk_at "n") => `(tactic| first
  | ((with_reducible show WE _ _ (Expr.Name "_law_bag_here" _) _ _ _); refine we_name (i := 0) rfl (by first | exact .inl rfl | exact .inr (.inl rfl) | exact .inr (.inr rfl)) rfl ?_)
  | ((with_reducible show WE _ _ (Expr.Name "_law_size" _) _ _ _); refine we_name (i := 1) rfl (by first | exact .inl rfl | exact .inr (.inl rfl) | exact .inr (.inr rfl)) rfl ?_))
local macro_rules | `(tactic| walk_at "t") => `(tactic| first
  | ((with_reducible show WS _ _ (Stmt.Assign [Expr.Name "_law_bag_here" _] _ _) _ _ _); refine ws_set (i := 0) (by assumption) rfl (by first | exact .inl rfl | exact .inr rfl) ?_)
  | ((with_reducible show WG _ _ (Expr.Name "_law_bag_here" _) _ _ _ _); refine wg_name (i := 0) (by assumption) rfl (by first | exact .inl rfl | exact .inr rfl) ?_)
  | ((with_reducible show WS _ _ (Stmt.Assign [Expr.Name "_law_size" _] _ _) _ _ _); refine ws_set (i := 1) (by assumption) rfl (by first | exact .inl rfl | exact .inr rfl) ?_)
  | ((with_reducible show WG _ _ (Expr.Name "_law_size" _) _ _ _ _); refine wg_name (i := 1) (by assumption) rfl (by first | exact .inl rfl | exact .inr rfl) ?_)
  | ((with_reducible show WS _ _ (Stmt.Assign [Expr.Tuple _ _ _] _ _) _ _ _); refine ws_asg ?_))
local macro_rules | `(tactic| walk_at "c") => `(tactic| first
  | ((with_reducible show WE _ _ (Expr.Call (Expr.Name "_law_draw" _) _ [] _) _ _ _); refine we_call (x := "_law_draw") (by assumption) (by walk_at "r") rfl ?_))
theorem fn_number {f : Addr} {fd : FuncData} (d_draw : FD P w K mg base 2 "_law_draw" 2 TDraw) (Fn : L2.Fun K "_law_number" "_law_number" st_l_number f fd) :
    FnOk P w K mg base (L2.CX P w) 3 f fd ["_law_bag_here"] (spG K TNum) := by
  refine fn_ok Fn sc_l_number rfl TNum_len ?_
  intro cdv A outer s H E N hr ds M Q X' h
  obtain ⟨b, rfl, k, L, hM, hL, q⟩ := h
  show WB _ _ _ [some _, none] _ _
  refine wb_cons ?_
  walk_at "t"
  refine we_ix ?_ (fun _ _ => rfl)
  refine we_lst ?_
  walk_at "g"
  refine tdraw (by decide) (by decide) (cl_k hM ⟨hL, fun r1 L1 h10 h11 hL1 => ?_⟩)
  walk_at "g"
  all_goals (first | exact (⟨by decide, by decide⟩ : CPw _ _) | skip)
  refine tdraw (by decide) (by decide) (cl_set hM ⟨hL1, fun r2 L2 h20 h21 hL2 => ?_⟩)
  have h22 : r2 < 10 ^ 30 + 1 := h21
  walk_at "g"
  all_goals (first | exact (⟨by decide, by decide⟩ : CPw _ _) | skip)
  refine tdraw (by decide) (by decide) (cl_set hM ⟨hL2, fun r3 L3 h30 h31 hL3 => ?_⟩)
  have e3 : r3 = 0 ∨ r3 = 1 ∨ r3 = 2 := by omega
  have pick : ∃ z : Int, atI [D.int r1, D.int r2, D.int (10 ^ Int.toNat 30)] r3 = some (.int z) ∧ 0 ≤ z ∧ z ≤ 10 ^ 30 := by
    rcases e3 with rfl | rfl | rfl
    · exact ⟨r1, rfl, h10, by omega⟩
    · exact ⟨r2, rfl, h20, by omega⟩
    · exact ⟨10 ^ Int.toNat 30, rfl, by decide, by decide⟩
  obtain ⟨z, hz, hz0, hz1⟩ := pick
  refine rix_l ⟨_, hz, ?_⟩
  walk_at "g"
  refine we_lst ?_
  walk_at "g"
  refine tdraw (by decide) (by decide) (cl_set hM ⟨hL3, fun r4 L4 h40 h41 hL4 => ?_⟩)
  have e4 : r4 = 0 ∨ r4 = 1 := by omega
  rcases e4 with rfl | rfl
  · refine rix_l ⟨.int z, rfl, ?_⟩
    exact q z L4 (by show z.natAbs ≤ 10 ^ 30; omega) hL4
  · refine rix_l ⟨.int (0 - z), rfl, ?_⟩
    exact q (0 - z) L4 (by show (0 - z).natAbs ≤ 10 ^ 30; omega) hL4
  all_goals exact ⟨by decide, by decide⟩
end
def TWriteB : TSp := fun ds M Q _ => ∃ xs, ds = [.lst (bookD xs)] ∧ BookOk xs ∧ Q (.str (bookW xs)) M
theorem TWriteB_mono : Mono TWriteB := fun ds M Q Q' E E' h _ ⟨xs, h1, h2, h3⟩ => ⟨xs, h1, h2, h _ _ h3⟩
theorem TWriteB_len : ∀ ds M Q E, TWriteB ds M Q E → ds.length = 1 := fun ds M Q E h => by obtain ⟨_, rfl, _⟩ := h; rfl
def TWriteF : TSp := fun ds M Q _ => ∃ is : List Int, ds = [.lst (is.map D.int)] ∧ is.length ≤ 100 ∧ (∀ i ∈ is, Small i) ∧ Q (.str (rowW (is.map some))) M
theorem TWriteF_mono : Mono TWriteF := fun ds M Q Q' E E' h _ ⟨xs, h1, h2, h3, h4⟩ => ⟨xs, h1, h2, h3, h _ _ h4⟩
theorem TWriteF_len : ∀ ds M Q E, TWriteF ds M Q E → ds.length = 1 := fun ds M Q E h => by obtain ⟨_, rfl, _⟩ := h; rfl
def TWriteT : TSp := fun ds M Q _ => ∃ os : List (Option Int), ds = [.lst (os.map optD)] ∧ os.length ≤ 100 ∧ (∀ o ∈ os, optG o) ∧ Q (.str (rowW os)) M
theorem TWriteT_mono : Mono TWriteT := fun ds M Q Q' E E' h _ ⟨xs, h1, h2, h3, h4⟩ => ⟨xs, h1, h2, h3, h _ _ h4⟩
theorem TWriteT_len : ∀ ds M Q E, TWriteT ds M Q E → ds.length = 1 := fun ds M Q E h => by obtain ⟨_, rfl, _⟩ := h; rfl
def fItem : D → D | .tup [.int x, .int v] => .str (itemW x v) | d => d
def fInt : D → D | .int x => .str (wordI x) | d => d
def fOpt : D → D | .int x => .str (wordI x) | _ => .str (Str.ofString "-")
theorem small_log {i : Int} (h : Small i) : i.natAbs.log2 < 1920 := by
  have h1 : i.natAbs < 2 ^ 100 := Nat.lt_of_le_of_lt h (by decide)
  exact Nat.lt_of_lt_of_le (log2_lt h1 (by decide)) (by decide)
theorem sum_le {parts : List Str} {y : Str} (hp : ∀ p ∈ parts, p.length ≤ 70) (hl : parts.length ≤ 100) (hy : y.length = 1) : (parts.map (·.length)).sum + parts.length * y.length ≤ 16777216 := by
  have h : (parts.map (·.length)).sum ≤ parts.length * 70 := by
    clear hl
    induction parts with
    | nil => simp
    | cons p ps ih =>
      have := hp p (List.mem_cons_self ..)
      have := ih fun q hq => hp q (List.mem_cons_of_mem _ hq)
      rw [List.map_cons, List.sum_cons, List.length_cons]
      omega
  rw [hy]
  omega
theorem len_colon : (Str.ofString ":").length = 1 := by rw [len_tl, show tl (Str.ofString ":") = [58] from tl_colon]; rfl
theorem len_blank : (Str.ofString " ").length = 1 := by rw [len_tl, show tl (Str.ofString " ") = [32] from tl_blank]; rfl
theorem len_app (x y : Str) : (x ++ y).length = x.length + y.length := by rw [len_tl, tl_append, List.length_append, ← len_tl, ← len_tl]
section
variable {P : Program} {w : World} {K : PySem.W.Frag} {mg : Str → Option Value} {base : Heap}
local macro_rules | `(tactic| walk_at "ok") => `(tactic| first
  | ((show BlkOk N_write_book (defScope st_write_book) _ _); exact blkOk_by (by decide +kernel)))
local macro_rules | `(tactic| walk_at "n") => `(tactic| first
  | ((with_reducible show WE _ _ (Expr.Name "book" _) _ _ _); refine we_name (i := 0) rfl (by first | exact .inl rfl | exact .inr (.inl rfl) | exact .inr (.inr rfl)) rfl ?_)
  | ((with_reducible show WE _ _ (Expr.Name "place" _) _ _ _); refine we_name (i := 1) rfl (by first | exact .inl rfl | exact .inr (.inl rfl) | exact .inr (.inr rfl)) rfl ?_)
  | ((with_reducible show WE _ _ (Expr.Name "value" _) _ _ _); refine we_name (i := 2) rfl (by first | exact .inl rfl | exact .inr (.inl rfl) | exact .inr (.inr rfl)) rfl ?_)
  | ((with_reducible show WE _ _ (Expr.Name "str" _) _ _ _); refine we_bltn (v := .ty "str") rfl (by assumption) (by decide +kernel) rfl ?_))
local macro_rules | `(tactic| walk_at "t") => `(tactic| first
  | ((with_reducible show WS _ _ (Stmt.Assign [Expr.Name "book" _] _ _) _ _ _); refine ws_set (i := 0) (by assumption) rfl (by first | exact .inl rfl | exact .inr rfl) ?_)
  | ((with_reducible show WG _ _ (Expr.Name "book" _) _ _ _ _); refine wg_name (i := 0) (by assumption) rfl (by first | exact .inl rfl | exact .inr rfl) ?_)
  | ((with_reducible show WS _ _ (Stmt.Assign [Expr.Name "place" _] _ _) _ _ _); refine ws_set (i := 1) (by assumption) rfl (by first | exact .inl rfl | exact .inr rfl) ?_)
  | ((with_reducible show WG _ _ (Expr.Name "place" _) _ _ _ _); refine wg_name (i := 1) (by assumption) rfl (by first | exact .inl rfl | exact .inr rfl) ?_)
  | ((with_reducible show WS _ _ (Stmt.Assign [Expr.Name "value" _] _ _) _ _ _); refine ws_set (i := 2) (by assumption) rfl (by first | exact .inl rfl | exact .inr rfl) ?_)
  | ((with_reducible show WG _ _ (Expr.Name "value" _) _ _ _ _); refine wg_name (i := 2) (by assumption) rfl (by first | exact .inl rfl | exact .inr rfl) ?_)
  | ((with_reducible show WS _ _ (Stmt.Assign [Expr.Tuple _ _ _] _ _) _ _ _); refine ws_asg ?_))
local macro_rules | `(tactic| walk_at "tg") => `(tactic| first
  | exact Tg.two (i := 1) (j := 2) rfl rfl (by decide) rfl rfl)
theorem fn_write_book {f : Addr} {fd : FuncData} (b_str : mg "str" = none) (Fn : L2.Fun K "write_book" "write_book" st_write_book f fd) :
    FnOk P w K mg base (L2.CX P w) 1 f fd ["book"] (spG K TWriteB) := by
  refine fn_ok Fn sc_write_book rfl TWriteB_len ?_
  intro cdv A outer s H E N hr ds M Q X' h
  obtain ⟨xs, rfl, hb, q⟩ := h
  show WB _ _ _ [some _, none, none] _ _
  refine wb_cons ?_
  walk_at "g"
  refine req_dN (p := .list (pys (bookD xs))) (q := .list []) (.inl ⟨okDs_book xs, rfl⟩) (.fz rfl) (shaped_book _) rfl ?_
  refine ⟨_, rfl, ?_⟩
  cases xs with
  | nil =>
    refine iteQ rfl ?_
    walk_at "g"
    exact q
  | cons x xs =>
    refine iteP rfl ?_
    walk_at "g"
    refine ⟨_, rfl, ?_⟩
    refine we_froz 0 (we_lcM fItem N (by walk_at "tg") (by walk_at "ok") (wi_list ?_))
    walk_at "g"
    refine ⟨_, .l, ?_, fun _ _ => .l, ?_, ?_⟩
    · unfold bookD; rw [List.length_map]; exact Nat.le_trans hb.1 (by decide)
    · intro j d acc p hd
      obtain ⟨y, hy, rfl⟩ := List.mem_map.mp (List.mem_of_getElem? hd)
      refine ⟨_, ⟨.int y.1, .int y.2, rfl, rfl⟩, fun B => ?_⟩
      have h1 := hb.2.1 y hy
      have l1 := word_len h1.1
      have l2 := word_len h1.2
      walk_at "g"
      refine ⟨small_log h1.1, ?_⟩
      walk_at "g"
      refine ⟨small_log h1.2, ?_⟩
      walk_at "g"
      all_goals first
        | exact ⟨rfl, rfl⟩
        | (rw [len_app, len_colon, sizeLine_eq]; show (wordI y.1).length + 1 + (wordI y.2).length ≤ _; omega)
        | (rw [len_colon, sizeLine_eq]; show (wordI y.1).length + 1 ≤ _; omega)
    · intro p
      refine ⟨p, _, rfl, rfl, (x :: xs).map fun y => itemW y.1 y.2, ?_, ?_, ?_⟩
      · rw [show ((x :: xs).map fun y => itemW y.1 y.2).map D.str = (bookD (x :: xs)).map fItem by unfold bookD; rw [List.map_map, List.map_map]; rfl]
        exact .l
      · refine sum_le (fun p hp => ?_) (by rw [List.length_map]; exact Nat.le_trans hb.1 (by decide)) len_blank
        obtain ⟨y, hy, rfl⟩ := List.mem_map.mp hp
        exact Nat.le_trans (item_len (hb.2.1 y hy).1 (hb.2.1 y hy).2) (by decide)
      · rw [show bookW (x :: xs) = Txt.join blank ((x :: xs).map fun y => itemW y.1 y.2) by unfold bookW; rw [if_neg (by simp)]] at q
        exact q
end
section
variable {P : Program} {w : World} {K : PySem.W.Frag} {mg : Str → Option Value} {base : Heap}
local macro_rules | `(tactic| walk_at "ok") => `(tactic| first
  | ((show BlkOk N_write_formula (defScope st_write_formula) _ _); exact blkOk_by (by decide +kernel)))
local macro_rules | `(tactic| walk_at "n") => `(tactic| first
  | ((with_reducible show WE _ _ (Expr.Name "formula" _) _ _ _); refine we_name (i := 0) rfl (by first | exact .inl rfl | exact .inr (.inl rfl) | exact .inr (.inr rfl)) rfl ?_)
  | ((with_reducible show WE _ _ (Expr.Name "value" _) _ _ _); refine we_name (i := 1) rfl (by first | exact .inl rfl | exact .inr (.inl rfl) | exact .inr (.inr rfl)) rfl ?_)
  | ((with_reducible show WE _ _ (Expr.Name "str" _) _ _ _); refine we_bltn (v := .ty "str") rfl (by assumption) (by decide +kernel) rfl ?_))
local macro_rules | `(tactic| walk_at "t") => `(tactic| first
  | ((with_reducible show WS _ _ (Stmt.Assign [Expr.Name "formula" _] _ _) _ _ _); refine ws_set (i := 0) (by assumption) rfl (by first | exact .inl rfl | exact .inr rfl) ?_)
  | ((with_reducible show WG _ _ (Expr.Name "formula" _) _ _ _ _); refine wg_name (i := 0) (by assumption) rfl (by first | exact .inl rfl | exact .inr rfl) ?_)
  | ((with_reducible show WS _ _ (Stmt.Assign [Expr.Name "value" _] _ _) _ _ _); refine ws_set (i := 1) (by assumption) rfl (by first | exact .inl rfl | exact .inr rfl) ?_)
  | ((with_reducible show WG _ _ (Expr.Name "value" _) _ _ _ _); refine wg_name (i := 1) (by assumption) rfl (by first | exact .inl rfl | exact .inr rfl) ?_)
  | ((with_reducible show WS _ _ (Stmt.Assign [Expr.Tuple _ _ _] _ _) _ _ _); refine ws_asg ?_))
local macro_rules | `(tactic| walk_at "tg") => `(tactic| first
  | exact Tg.one (i := 1) rfl rfl)
theorem fn_write_formula {f : Addr} {fd : FuncData} (b_str : mg "str" = none) (Fn : L2.Fun K "write_formula" "write_formula" st_write_formula f fd) :
    FnOk P w K mg base (L2.CX P w) 1 f fd ["formula"] (spG K TWriteF) := by
  refine fn_ok Fn sc_write_formula rfl TWriteF_len ?_
  intro cdv A outer s H E N hr ds M Q X' h
  obtain ⟨is, rfl, hl, hs, q⟩ := h
  show WB _ _ _ [some _, none] _ _
  refine wb_cons ?_
  walk_at "g"
  refine ⟨_, rfl, ?_⟩
  refine we_froz 0 (we_lcM fInt N (by walk_at "tg") (by walk_at "ok") (wi_list ?_))
  walk_at "g"
  refine ⟨_, .l, ?_, fun _ _ => .l, ?_, ?_⟩
  · rw [List.length_map, sizeLine_eq]; omega
  · intro j d acc p hd
    obtain ⟨y, hy, rfl⟩ := List.mem_map.mp (List.mem_of_getElem? hd)
    refine ⟨_, rfl, fun B => ?_⟩
    walk_at "g"
    exact ⟨small_log (hs y hy), rfl, rfl⟩
  · intro p
    refine ⟨p, _, rfl, rfl, is.map wordI, ?_, ?_, ?_⟩
    · rw [show (is.map wordI).map D.str = (is.map D.int).map fInt by rw [List.map_map, List.map_map]; rfl]
      exact .l
    · refine sum_le (fun p hp => ?_) (by rw [List.length_map]; exact hl) len_blank
      obtain ⟨y, hy, rfl⟩ := List.mem_map.mp hp
      exact Nat.le_trans (word_len (hs y hy)) (by decide)
    · rw [show rowW (is.map some) = Txt.join blank (is.map wordI) by unfold rowW; rw [List.map_map]; rfl] at q
      exact q
end
section
variable {P : Program} {w : World} {K : PySem.W.Frag} {mg : Str → Option Value} {base : Heap}
local macro_rules | `(tactic| walk_at "ok") => `(tactic| first
  | ((show BlkOk N_write_table (defScope st_write_table) _ _); exact blkOk_by (by decide +kernel)))
local macro_rules | `(tactic| walk_at "n") => `(tactic| first
  | ((with_reducible show WE _ _ (Expr.Name "table" _) _ _ _); refine we_name (i := 0) rfl (by first | exact .inl rfl | exact .inr (.inl rfl) | exact .inr (.inr rfl)) rfl ?_)
  | ((with_reducible show WE _ _ (Expr.Name "rest" _) _ _ _); refine we_name (i := 1) rfl (by first | exact .inl rfl | exact .inr (.inl rfl) | exact .inr (.inr rfl)) rfl ?_)
  | ((with_reducible show WE _ _ (Expr.Name "str" _) _ _ _); refine we_bltn (v := .ty "str") rfl (by assumption) (by decide +kernel) rfl ?_))
local macro_rules | `(tactic| walk_at "t") => `(tactic| first
  | ((with_reducible show WS _ _ (Stmt.Assign [Expr.Name "table" _] _ _) _ _ _); refine ws_set (i := 0) (by assumption) rfl (by first | exact .inl rfl | exact .inr rfl) ?_)
  | ((with_reducible show WG _ _ (Expr.Name "table" _) _ _ _ _); refine wg_name (i := 0) (by assumption) rfl (by first | exact .inl rfl | exact .inr rfl) ?_)
  | ((with_reducible show WS _ _ (Stmt.Assign [Expr.Name "rest" _] _ _) _ _ _); refine ws_set (i := 1) (by assumption) rfl (by first | exact .inl rfl | exact .inr rfl) ?_)
  | ((with_reducible show WG _ _ (Expr.Name "rest" _) _ _ _ _); refine wg_name (i := 1) (by assumption) rfl (by first | exact .inl rfl | exact .inr rfl) ?_)
  | ((with_reducible show WS _ _ (Stmt.Assign [Expr.Tuple _ _ _] _ _) _ _ _); refine ws_asg ?_))
local macro_rules | `(tactic| walk_at "tg") => `(tactic| first
  | exact Tg.one (i := 1) rfl rfl)
theorem fn_write_table {f : Addr} {fd : FuncData} (b_str : mg "str" = none) (Fn : L2.Fun K "write_table" "write_table" st_write_table f fd) :
    FnOk P w K mg base (L2.CX P w) 1 f fd ["table"] (spG K TWriteT) := by
  refine fn_ok Fn sc_write_table rfl TWriteT_len ?_
  intro cdv A outer s H E N hr ds M Q X' h
  obtain ⟨os, rfl, hl, hs, q⟩ := h
  show WB _ _ _ [some _, none] _ _
  refine wb_cons ?_
  walk_at "g"
  refine ⟨_, rfl, ?_⟩
  refine we_froz 0 (we_lcM fOpt N (by walk_at "tg") (by walk_at "ok") (wi_list ?_))
  walk_at "g"
  refine ⟨_, .l, ?_, fun _ _ => .l, ?_, ?_⟩
  · rw [List.length_map, sizeLine_eq]; omega
  · intro j d acc p hd
    obtain ⟨y, hy, rfl⟩ := List.mem_map.mp (List.mem_of_getElem? hd)
    cases y with
    | none =>
      refine ⟨_, rfl, fun B => ?_⟩
      rw [show optD none = D.non from rfl]
      walk_at "g"
      all_goals first | rfl | exact ⟨rfl, rfl⟩
    | some i =>
      refine ⟨_, rfl, fun B => ?_⟩
      rw [show optD (some i) = D.int i from rfl]
      walk_at "g"
      exact ⟨small_log (hs _ hy i rfl), rfl, rfl⟩
  · intro p
    refine ⟨p, _, rfl, rfl, os.map optW, ?_, ?_, ?_⟩
    · rw [show (os.map optW).map D.str = (os.map optD).map fOpt by
        rw [List.map_map, List.map_map]
        refine List.map_congr_left fun o _ => ?_
        cases o <;> rfl]
      exact .l
    · refine sum_le (fun p hp => ?_) (by rw [List.length_map]; exact hl) len_blank
      obtain ⟨y, hy, rfl⟩ := List.mem_map.mp hp
      exact Nat.le_trans (optW_len (hs y hy)) (by decide)
    · exact q
end
/-! TxtF -/
def TDue : TSp := fun ds M Q _ => ∃ (xs : List (Int × Int)) (is : List Int) (os : List (Option Int)), ds = [.lst (bookD xs), .lst (is.map D.int), .lst (os.map optD)] ∧ BookOk xs ∧ is.length ≤ 100 ∧ (∀ i ∈ is, Small i) ∧ os.length ≤ 100 ∧ (∀ o ∈ os, optG o) ∧
  Q (.lst [.str (bookW xs), .str (rowW (is.map some)), .str (rowW os)]) M
theorem TDue_mono : Mono TDue := fun ds M Q Q' E E' h _ ⟨xs, is, os, h1, h2, h3, h4, h5, h6, h7⟩ => ⟨xs, is, os, h1, h2, h3, h4, h5, h6, h _ _ h7⟩
theorem TDue_len : ∀ ds M Q E, TDue ds M Q E → ds.length = 3 := fun ds M Q E h => by obtain ⟨_, _, _, rfl, _⟩ := h; rfl
section
variable {P : Program} {w : World} {K : PySem.W.Frag} {mg : Str → Option Value} {base : Heap}
local macro_rules | `(tactic| walk_at "ok") => `(tactic| first
  | ((show BlkOk N_l_due (defScope st_l_due) _ _); exact blkOk_by (by decide +kernel)))
local macro_rules | `(tactic| walk_at "n") => `(tactic| first
  | ((with_reducible show WE _ _ (Expr.Name "_law_some" _) _ _ _); refine we_name (i := 0) rfl (by first | exact .inl rfl | exact .inr (.inl rfl) | exact .inr (.inr rfl)) rfl ?_)
  | ((with_reducible show WE _ _ (Expr.Name "_law_numbers" _) _ _ _); refine we_name (i := 1) rfl (by first | exact .inl rfl | exact .inr (.inl rfl) | exact .inr (.inr rfl)) rfl ?_)
  | ((with_reducible show WE _ _ (Expr.Name "_law_rests" _) _ _ _); refine we_name (i := 2) rfl (by first | exact .inl rfl | exact .inr (.inl rfl) | exact .inr (.inr rfl)) rfl ?_)
  | ((with_reducible show WE _ _ (Expr.Name "_law_found" _) _ _ _); refine we_name (i := 3) rfl (by first | exact .inl rfl | exact .inr (.inl rfl) | exact .inr (.inr rfl)) rfl ?_)
  | ((with_reducible show WE _ _ (Expr.Name "_law_size" _) _ _ _); refine we_name (i := 4) rfl (by first | exact .inl rfl | exact .inr (.inl rfl) | exact .inr (.inr rfl)) rfl ?_)
  | ((with_reducible show WE _ _ (Expr.Name "_law_x" _) _ _ _); refine we_name (i := 5) rfl (by first | exact .inl rfl | exact .inr (.inl rfl) | exact .inr (.inr rfl)) rfl ?_)
  | ((with_reducible show WE _ _ (Expr.Name "_law_told" _) _ _ _); refine we_name (i := 6) rfl (by first | exact .inl rfl | exact .inr (.inl rfl) | exact .inr (.inr rfl)) rfl ?_)
  | ((with_reducible show WE _ _ (Expr.Name "_law_left" _) _ _ _); refine we_name (i := 7) rfl (by first | exact .inl rfl | exact .inr (.inl rfl) | exact .inr (.inr rfl)) rfl ?_)
  | ((with_reducible show WE _ _ (Expr.Name "str" _) _ _ _); refine we_bltn (v := .ty "str") rfl (by assumption) (by decide +kernel) rfl ?_))
local macro_rules | `(tactic| walk_at "t") => `(tactic| first
  | ((with_reducible show WS _ _ (Stmt.Assign [Expr.Name "_law_some" _] _ _) _ _ _); refine ws_set (i := 0) (by assumption) rfl (by first | exact .inl rfl | exact .inr rfl) ?_)
  | ((with_reducible show WG _ _ (Expr.Name "_law_some" _) _ _ _ _); refine wg_name (i := 0) (by assumption) rfl (by first | exact .inl rfl | exact .inr rfl) ?_)
  | ((with_reducible show WS _ _ (Stmt.Assign [Expr.Name "_law_numbers" _] _ _) _ _ _); refine ws_set (i := 1) (by assumption) rfl (by first | exact .inl rfl | exact .inr rfl) ?_)
  | ((with_reducible show WG _ _ (Expr.Name "_law_numbers" _) _ _ _ _); refine wg_name (i := 1) (by assumption) rfl (by first | exact .inl rfl | exact .inr rfl) ?_)
  | ((with_reducible show WS _ _ (Stmt.Assign [Expr.Name "_law_rests" _] _ _) _ _ _); refine ws_set (i := 2) (by assumption) rfl (by first | exact .inl rfl | exact .inr rfl) ?_)
  | ((with_reducible show WG _ _ (Expr.Name "_law_rests" _) _ _ _ _); refine wg_name (i := 2) (by assumption) rfl (by first | exact .inl rfl | exact .inr rfl) ?_)
  | ((with_reducible show WS _ _ (Stmt.Assign [Expr.Name "_law_found" _] _ _) _ _ _); refine ws_set (i := 3) (by assumption) rfl (by first | exact .inl rfl | exact .inr rfl) ?_)
  | ((with_reducible show WG _ _ (Expr.Name "_law_found" _) _ _ _ _); refine wg_name (i := 3) (by assumption) rfl (by first | exact .inl rfl | exact .inr rfl) ?_)
  | ((with_reducible show WS _ _ (Stmt.Assign [Expr.Name "_law_size" _] _ _) _ _ _); refine ws_set (i := 4) (by assumption) rfl (by first | exact .inl rfl | exact .inr rfl) ?_)
  | ((with_reducible show WG _ _ (Expr.Name "_law_size" _) _ _ _ _); refine wg_name (i := 4) (by assumption) rfl (by first | exact .inl rfl | exact .inr rfl) ?_)
  | ((with_reducible show WS _ _ (Stmt.Assign [Expr.Name "_law_x" _] _ _) _ _ _); refine ws_set (i := 5) (by assumption) rfl (by first | exact .inl rfl | exact .inr rfl) ?_)
  | ((with_reducible show WG _ _ (Expr.Name "_law_x" _) _ _ _ _); refine wg_name (i := 5) (by assumption) rfl (by first | exact .inl rfl | exact .inr rfl) ?_)
  | ((with_reducible show WS _ _ (Stmt.Assign [Expr.Name "_law_told" _] _ _) _ _ _); refine ws_set (i := 6) (by assumption) rfl (by first | exact .inl rfl | exact .inr rfl) ?_)
  | ((with_reducible show WG _ _ (Expr.Name "_law_told" _) _ _ _ _); refine wg_name (i := 6) (by assumption) rfl (by first | exact .inl rfl | exact .inr rfl) ?_)
  | ((with_reducible show WS _ _ (Stmt.Assign [Expr.Name "_law_left" _] _ _) _ _ _); refine ws_set (i := 7) (by assumption) rfl (by first | exact .inl rfl | exact .inr rfl) ?_)
  | ((with_reducible show WG _ _ (Expr.Name "_law_left" _) _ _ _ _); refine wg_name (i := 7) (by assumption) rfl (by first | exact .inl rfl | exact .inr rfl) ?_)
  | ((with_reducible show WS _ _ (Stmt.Assign [Expr.Tuple _ _ _] _ _) _ _ _); refine ws_asg ?_))
local macro_rules | `(tactic| walk_at "tg") => `(tactic| first
  | exact Tg.one (i := 4) rfl rfl
  | exact Tg.two (i := 5) (j := 6) rfl rfl (by decide) rfl rfl
  | exact Tg.one (i := 7) rfl rfl)
theorem fn_due {f : Addr} {fd : FuncData} (b_str : mg "str" = none) (Fn : L2.Fun K "_law_due" "_law_due" st_l_due f fd) :
    FnOk P w K mg base (L2.CX P w) 1 f fd ["_law_some", "_law_numbers", "_law_rests"] (spG K TDue) := by
  refine fn_ok Fn sc_l_due rfl TDue_len ?_
  intro cdv A outer s H E N hr ds M Q X' h
  obtain ⟨xs, is, os, rfl, hb, hl, hs, hl2, hs2, q⟩ := h
  show WB _ _ _ [some _, some _, some _, none, none, none, none, none] _ _
  refine wb_cons ?_
  walk_at "t"
  refine we_lstC (wa_cons ?_)
  refine WE.cut (Q := fun d M' => d = .str (bookW xs) ∧ M' = M) ?_ ?_
  · walk_at "g"
    refine req_dN (p := .list (pys (bookD xs))) (q := .list []) (.inl ⟨okDs_book xs, rfl⟩) (.fz rfl) (shaped_book _) rfl ?_
    refine ⟨_, rfl, ?_⟩
    cases xs with
    | nil =>
      refine iteQ rfl ?_
      walk_at "g"
      exact ⟨rfl, rfl⟩
    | cons x xs =>
      refine iteP rfl ?_
      walk_at "g"
      refine ⟨_, rfl, ?_⟩
      refine we_froz 0 (we_lcM fItem N (by walk_at "tg") (by walk_at "ok") (wi_list ?_))
      walk_at "g"
      refine ⟨_, .l, ?_, fun _ _ => .l, ?_, ?_⟩
      · unfold bookD; rw [List.length_map]; exact Nat.le_trans hb.1 (by decide)
      · intro j d acc p hd
        obtain ⟨y, hy, rfl⟩ := List.mem_map.mp (List.mem_of_getElem? hd)
        refine ⟨_, ⟨.int y.1, .int y.2, rfl, rfl⟩, fun B => ?_⟩
        have h1 := hb.2.1 y hy
        have l1 := word_len h1.1
        have l2 := word_len h1.2
        walk_at "g"
        refine ⟨small_log h1.1, ?_⟩
        walk_at "g"
        refine ⟨small_log h1.2, ?_⟩
        walk_at "g"
        all_goals first
          | exact ⟨rfl, rfl⟩
          | (rw [len_app, len_colon, sizeLine_eq]; show (wordI y.1).length + 1 + (wordI y.2).length ≤ _; omega)
          | (rw [len_colon, sizeLine_eq]; show (wordI y.1).length + 1 ≤ _; omega)
      · intro p
        refine ⟨p, _, rfl, rfl, (x :: xs).map fun y => itemW y.1 y.2, ?_, ?_, ?_⟩
        · rw [show ((x :: xs).map fun y => itemW y.1 y.2).map D.str = (bookD (x :: xs)).map fItem by unfold bookD; rw [List.map_map, List.map_map]; rfl]
          exact .l
        · refine sum_le (fun p hp => ?_) (by rw [List.length_map]; exact Nat.le_trans hb.1 (by decide)) len_blank
          obtain ⟨y, hy, rfl⟩ := List.mem_map.mp hp
          exact Nat.le_trans (item_len (hb.2.1 y hy).1 (hb.2.1 y hy).2) (by decide)
        · rw [show bookW (x :: xs) = Txt.join blank ((x :: xs).map fun y => itemW y.1 y.2) by unfold bookW; rw [if_neg (by simp)]]
          exact ⟨rfl, rfl⟩
  · rintro _ _ ⟨rfl, rfl⟩
    rename_i M
    walk_at "g"
    intro p0
    walk_at "g"
    refine ⟨_, rfl, ?_⟩
    refine we_froz 0 (we_lcM fInt N (by walk_at "tg") (by walk_at "ok") (wi_list ?_))
    walk_at "g"
    refine ⟨_, .l, ?_, fun _ _ => .l, ?_, ?_⟩
    · rw [List.length_map, sizeLine_eq]; omega
    · intro j d acc p hd
      obtain ⟨y, hy, rfl⟩ := List.mem_map.mp (List.mem_of_getElem? hd)
      refine ⟨_, rfl, fun B => ?_⟩
      walk_at "g"
      exact ⟨small_log (hs y hy), rfl, rfl⟩
    · intro p
      refine ⟨p, _, rfl, rfl, is.map wordI, ?_, ?_, ?_⟩
      · rw [show (is.map wordI).map D.str = (is.map D.int).map fInt by rw [List.map_map, List.map_map]; rfl]
        exact .l
      · refine sum_le (fun p hp => ?_) (by rw [List.length_map]; exact hl) len_blank
        obtain ⟨y, hy, rfl⟩ := List.mem_map.mp hp
        exact Nat.le_trans (word_len (hs y hy)) (by decide)
      · rw [show Txt.join (Str.ofString " ") (is.map wordI) = rowW (is.map some) by unfold rowW; rw [List.map_map]; rfl]
        walk_at "g"
        refine ⟨by show 1 < sizeLine; decide, ?_⟩
        refine wb_one (ws_ret (WE.drop ?_))
        walk_at "g"
        refine we_lst ?_
        walk_at "g"
        refine ⟨_, rfl, ?_⟩
        refine we_froz 0 (we_lcM fOpt N (by walk_at "tg") (by walk_at "ok") (wi_list ?_))
        walk_at "g"
        refine ⟨_, .l, ?_, fun _ _ => .l, ?_, ?_⟩
        · rw [List.length_map, sizeLine_eq]; omega
        · intro j d acc p hd
          obtain ⟨y, hy, rfl⟩ := List.mem_map.mp (List.mem_of_getElem? hd)
          cases y with
          | none =>
            refine ⟨_, rfl, fun B => ?_⟩
            rw [show optD none = D.non from rfl]
            walk_at "g"
            all_goals first | rfl | exact ⟨rfl, rfl⟩
          | some i =>
            refine ⟨_, rfl, fun B => ?_⟩
            rw [show optD (some i) = D.int i from rfl]
            walk_at "g"
            exact ⟨small_log (hs2 _ hy i rfl), rfl, rfl⟩
        · intro p
          refine ⟨p, _, rfl, rfl, os.map optW, ?_, ?_, ?_⟩
          · rw [show (os.map optW).map D.str = (os.map optD).map fOpt by
              rw [List.map_map, List.map_map]
              refine List.map_congr_left fun o _ => ?_
              cases o <;> rfl]
            exact .l
          · refine sum_le (fun p hp => ?_) (by rw [List.length_map]; exact hl2) len_blank
            obtain ⟨y, hy, rfl⟩ := List.mem_map.mp hp
            exact Nat.le_trans (optW_len (hs2 y hy)) (by decide)
          · walk_at "g"
            refine .inr (.inr ⟨_, _, .c 0 rfl, .l, by show 3 ≤ sizeLine; decide, ?_⟩)
            exact ⟨_, _, rfl, q⟩
end
/-! TxtG -/
theorem prd_map {α β γ : Type} {R : β → γ → Prop} {f : α → β} {g : α → γ} : ∀ {xs : List α}, (∀ x ∈ xs, R (f x) (g x)) → Paired R (xs.map f) (xs.map g)
  | [], _ => .nil
  | x :: xs, h => .cons (h x (List.mem_cons_self ..)) (prd_map fun y hy => h y (List.mem_cons_of_mem _ hy))
theorem prd_len {α β : Type} {R : α → β → Prop} : ∀ {a : List α} {b : List β}, Paired R a b → a.length = b.length
  | _, _, .nil => rfl
  | _, _, .cons r t => by simp [prd_len t]
theorem alk_s {M : Cells} {n : Nat} {d e : D} {t : String} {ds es : List D} (h1 : Sq M d t ds) (h2 : Sq M e t es) (hz : es.length ≤ 1000000) (h : Paired (Alk M n) ds es) : Alk M (n + 1) d e :=
  .seq h1 h2 (prd_len h) hz fun i a b ha hb => by
    obtain ⟨u, h3, h4⟩ := prd_some h ha
    rw [hb] at h3
    cases h3
    exact h4
theorem alk_l {M : Cells} {n : Nat} {d e : D} {ds es : List D} (h1 : LV M d ds) (h2 : LV M e es) (hz : es.length ≤ 1000000) (h : Paired (Alk M n) ds es) : Alk M (n + 1) d e := alk_s (.inl ⟨rfl, h1⟩) (.inl ⟨rfl, h2⟩) hz h
theorem alk_t {M : Cells} {n : Nat} {ds es : List D} (hz : es.length ≤ 1000000) (h : Paired (Alk M n) ds es) : Alk M (n + 1) (.tup ds) (.tup es) := alk_s (.inr ⟨rfl, rfl⟩) (.inr ⟨rfl, rfl⟩) hz h
theorem alk_strs {M : Cells} {n : Nat} {d e : D} {zs : List Str} (h1 : LV M d (zs.map D.str)) (h2 : LV M e (zs.map D.str)) (hz : zs.length ≤ 1000) : Alk M (n + 1) d e := alk_l h1 h2 (by rw [List.length_map]; omega) (prd_map fun x _ => .str x)
theorem alk_ints {M : Cells} {n : Nat} {d e : D} {zs : List Int} (h1 : LV M d (zs.map D.int)) (h2 : LV M e (zs.map D.int)) (hz : zs.length ≤ 1000) : Alk M (n + 1) d e := alk_l h1 h2 (by rw [List.length_map]; omega) (prd_map fun x _ => .int x)
theorem alk_opts {M : Cells} {n : Nat} {d e : D} {zs : List (Option Int)} (h1 : LV M d (zs.map optD)) (h2 : LV M e (zs.map optD)) (hz : zs.length ≤ 1000) : Alk M (n + 1) d e := alk_l h1 h2 (by rw [List.length_map]; omega) (prd_map fun x _ => by cases x with | none => exact .non | some i => exact .int i)
theorem alk_book {M : Cells} {n : Nat} {d e : D} {zs : List (Int × Int)} (h1 : LV M d (bookD zs)) (h2 : LV M e (bookD zs)) (hz : zs.length ≤ 1000) : Alk M (n + 2) d e := alk_l h1 h2 (by unfold bookD; rw [List.length_map]; omega) (prd_map fun x _ => alk_t (by show 2 ≤ 1000000; decide) (.cons (.int _) (.cons (.int _) .nil)))
theorem okDs_ints : ∀ xs : List Int, okDs (xs.map D.int) = true
  | [] => rfl
  | x :: xs => by show (true && okDs (xs.map D.int)) = true; rw [okDs_ints xs]; rfl
theorem okDs_opts : ∀ xs : List (Option Int), okDs (xs.map optD) = true
  | [] => rfl
  | x :: xs => by show (okD (optD x) && okDs (xs.map optD)) = true; rw [okDs_opts xs]; cases x <;> rfl
theorem lay_ints : ∀ xs : List Int, PyData.canLayAll0 (pys (xs.map D.int)) = true ∧ PyData.depthAll (pys (xs.map D.int)) ≤ 4
  | [] => by simp [pys, PyData.canLayAll0, PyData.depthAll]
  | x :: xs => by
    have := lay_ints xs
    show PyData.canLayAll0 (.int x :: pys (xs.map D.int)) = true ∧ PyData.depthAll (.int x :: pys (xs.map D.int)) ≤ 4
    simp only [PyData.depthAll, PyData.depth, PyData.canLayAll0, PyData.canLay0, this.1]
    exact ⟨rfl, by omega⟩
theorem lay_opts : ∀ xs : List (Option Int), PyData.canLayAll0 (pys (xs.map optD)) = true ∧ PyData.depthAll (pys (xs.map optD)) ≤ 4
  | [] => by simp [pys, PyData.canLayAll0, PyData.depthAll]
  | x :: xs => by
    have := lay_opts xs
    show PyData.canLayAll0 (py (optD x) :: pys (xs.map optD)) = true ∧ PyData.depthAll (py (optD x) :: pys (xs.map optD)) ≤ 4
    cases x with
    | none =>
      show PyData.canLayAll0 (.none :: pys (xs.map optD)) = true ∧ PyData.depthAll (.none :: pys (xs.map optD)) ≤ 4
      simp only [PyData.depthAll, PyData.depth, PyData.canLayAll0, PyData.canLay0, this.1]
      exact ⟨rfl, by omega⟩
    | some i =>
      show PyData.canLayAll0 (.int i :: pys (xs.map optD)) = true ∧ PyData.depthAll (.int i :: pys (xs.map optD)) ≤ 4
      simp only [PyData.depthAll, PyData.depth, PyData.canLayAll0, PyData.canLay0, this.1]
      exact ⟨rfl, by omega⟩
/-- the three lists in one -/
def threeD (xs : List (Int × Int)) (is : List Int) (os : List (Option Int)) : D := .lst [.lst (bookD xs), .lst (is.map D.int), .lst (os.map optD)]
theorem ok_three {xs : List (Int × Int)} {is : List Int} {os : List (Option Int)} : okD (threeD xs is os) = true := by
  show (okDs (bookD xs) && (okDs (is.map D.int) && (okDs (os.map optD) && true))) = true
  rw [okDs_book, okDs_ints, okDs_opts]; rfl
theorem shaped_three {xs : List (Int × Int)} {is : List Int} {os : List (Option Int)} : SeqAt.shaped (py (threeD xs is os)) = true := by
  show SeqAt.shaped (.list [.list (pys (bookD xs)), .list (pys (is.map D.int)), .list (pys (os.map optD))]) = true
  have h1 := dep_book xs
  have h2 := lay_ints is
  have h3 := lay_opts os
  refine shaped_list ?_ ?_
  · simp only [PyData.canLayAll0, PyData.canLay0, lay_book, h2.1, h3.1]; rfl
  · simp only [PyData.depthAll, PyData.depth]; omega
/-! TxtH -/
theorem eq_1 : Str.ofString "-" = bookW [] := by unfold bookW; rfl
theorem eq_2 : Str.ofString "-1" = rowW ([(-1 : Int)].map some) := by decide +kernel
theorem eq_3 : Str.ofString "-" = rowW [none] := by decide +kernel
theorem eq_4 : Str.ofString "0" = rowW [some 0] := by decide +kernel
theorem eq_5 : Str.ofString "-10:-1 0:5" = bookW [(-10, -1), (0, 5)] := by decide +kernel
theorem eq_6 : bookW [(-3, 0), (0, -10 ^ 30)] = Str.ofString "-3:0 0:-1" ++ Txt.mul (Str.ofString "0") 30 := by decide +kernel
theorem eq_7 : rowW ([0, -7].map some) = Str.ofString "0 -7" := by decide +kernel
theorem eq_8 : rowW [none, some 1] = Str.ofString "- 1" := by decide +kernel
theorem bk_6 : BookOk [(-3, 0), (0, -10 ^ 30)] := ⟨by decide, by
  intro x hx
  simp only [List.mem_cons, List.not_mem_nil, or_false] at hx
  rcases hx with rfl | rfl
  · exact ⟨by show (-3 : Int).natAbs ≤ 10 ^ 30; decide, by show (0 : Int).natAbs ≤ 10 ^ 30; decide⟩
  · exact ⟨by show (0 : Int).natAbs ≤ 10 ^ 30; decide, by show (-10 ^ 30 : Int).natAbs ≤ 10 ^ 30; decide⟩, by decide⟩
theorem bk_5 : BookOk [(-10, -1), (0, 5)] := ⟨by decide, by
  intro x hx
  simp only [List.mem_cons, List.not_mem_nil, or_false] at hx
  rcases hx with rfl | rfl
  · exact ⟨by show (-10 : Int).natAbs ≤ 10 ^ 30; decide, by show (-1 : Int).natAbs ≤ 10 ^ 30; decide⟩
  · exact ⟨by show (0 : Int).natAbs ≤ 10 ^ 30; decide, by show (5 : Int).natAbs ≤ 10 ^ 30; decide⟩, by decide⟩
theorem bk_0 : BookOk [] := ⟨by decide, by simp, by simp⟩
theorem sm_1 : ∀ i ∈ [(-1 : Int)], Small i := by
  intro x hx
  rw [List.mem_singleton.mp hx]
  show (-1 : Int).natAbs ≤ 10 ^ 30; decide
theorem sm_7 : ∀ i ∈ [(0 : Int), -7], Small i := by
  intro x hx
  simp only [List.mem_cons, List.not_mem_nil, or_false] at hx
  rcases hx with rfl | rfl
  · show (0 : Int).natAbs ≤ 10 ^ 30; decide
  · show (-7 : Int).natAbs ≤ 10 ^ 30; decide
theorem og_8 : ∀ o ∈ [none, some (1 : Int)], optG o := by
  intro o ho z hz
  subst hz
  simp at ho
  subst ho
  show (1 : Int).natAbs ≤ 10 ^ 30; decide
theorem ro_3 : ∀ o ∈ [(none : Option Int)], RestOk 1 o := by
  intro o ho z hz
  rw [List.mem_singleton.mp ho] at hz
  cases hz
theorem ro_4 : ∀ o ∈ [some (0 : Int)], RestOk 1 o := by
  intro o ho z hz
  rw [List.mem_singleton.mp ho] at hz
  cases hz
  exact ⟨by decide, by decide⟩
theorem mo_0 : MulOk (Str.ofString "0") 30 := ⟨by decide, fun _ _ => by decide, fun _ _ => by decide⟩
/-! Law -/
section
variable {X : Cx} {P : XP} {F : Hp} {M : Cells} {δ : Slots} {σ : L2.St} {H : Hp} {a b : Expr} {pos : Pos}
theorem op_mulS : OpR X (binaryOp .Mult) (fun x y H Q => ∃ z n, x = .str z ∧ y = .int n ∧ MulOk z n ∧ Q (.str (Txt.mul z n)) H) := by
  intro pins s σ H x y v u Q I rx ry h
  obtain ⟨z, n, rfl, rfl, h1, q⟩ := h
  obtain ⟨t, rfl⟩ := rx
  obtain ⟨t', rfl⟩ := ry
  exact PySem.SB.mul h1 fun t2 k => ⟨.str _, H, I.tok k, ⟨t2, rfl⟩, q⟩
theorem we_mulS {Q : D → Cells → Prop} (h : WE X P a δ M fun d M1 => WE X P b δ M1 fun e M2 => ∃ z n, d = .str z ∧ e = .int n ∧ MulOk z n ∧ Q (.str (Txt.mul z n)) M2) : WE X P (.BinOp a .Mult b pos) δ M Q :=
  we_op (R := fun d e M2 Q => ∃ z n, d = .str z ∧ e = .int n ∧ MulOk z n ∧ Q (.str (Txt.mul z n)) M2) op_mulS (fun k s S r1 r2 h => by
    obtain ⟨z, n, rfl, rfl, h1, q⟩ := h
    cases r1; cases r2
    exact ⟨z, n, rfl, rfl, h1, k _ _ (ret S s (.str _) q)⟩) h
end
theorem tnum {b : Addr} {M : Cells} {Q : D → Cells → Prop} {E : Ex → Cells → Prop} (h : CL M b fun L f => BagL L ∧ ∀ i L', Small i → BagL L' → Q (.int i) (f L')) : TNum [.cel b] M Q E := ⟨b, rfl, h⟩
def TLaw : TSp := fun ds M Q _ => ∃ ns : List Int, ds = [.lst (ns.map D.int)] ∧ ns.length ≤ 63 ∧ ∀ M', Q (.bl true) M'
theorem TLaw_mono : Mono TLaw := fun ds M Q Q' E E' h _ ⟨ns, h1, h2, h3⟩ => ⟨ns, h1, h2, fun M' => h _ _ (h3 M')⟩
theorem TLaw_len : ∀ ds M Q E, TLaw ds M Q E → ds.length = 1 := fun ds M Q E h => by obtain ⟨_, rfl, _⟩ := h; rfl
section
variable {P : Program} {w : World} {K : PySem.W.Frag} {mg : Str → Option Value} {base : Heap}
local macro_rules | `(tactic| walk_at "ok") => `(tactic| first
  | ((show BlkOk N_law (defScope st_law) _ _); exact blkOk_by (by decide +kernel)))
local macro_rules | `(tactic| walk_at "n") => `(tactic| first
  | ((with_reducible show WE _ _ (Expr.Name "_law_script" _) _ _ _); refine we_name (i := 0) rfl (by first | exact .inl rfl | exact .inr (.inl rfl) | exact .inr (.inr rfl)) rfl ?_)
  | ((with_reducible show WE _ _ (Expr.Name "_law_bag_here" _) _ _ _); refine we_name (i := 1) rfl (by first | exact .inl rfl | exact .inr (.inl rfl) | exact .inr (.inr rfl)) rfl ?_)
  | ((with_reducible show WE _ _ (Expr.Name "_law_turn" _) _ _ _); refine we_name (i := 2) rfl (by first | exact .inl rfl | exact .inr (.inl rfl) | exact .inr (.inr rfl)) rfl ?_)
  | ((with_reducible show WE _ _ (Expr.Name "_law_few" _) _ _ _); refine we_name (i := 3) rfl (by first | exact .inl rfl | exact .inr (.inl rfl) | exact .inr (.inr rfl)) rfl ?_)
  | ((with_reducible show WE _ _ (Expr.Name "_law_wide" _) _ _ _); refine we_name (i := 4) rfl (by first | exact .inl rfl | exact .inr (.inl rfl) | exact .inr (.inr rfl)) rfl ?_)
  | ((with_reducible show WE _ _ (Expr.Name "_law_long" _) _ _ _); refine we_name (i := 5) rfl (by first | exact .inl rfl | exact .inr (.inl rfl) | exact .inr (.inr rfl)) rfl ?_)
  | ((with_reducible show WE _ _ (Expr.Name "_law_spots_in" _) _ _ _); refine we_name (i := 6) rfl (by first | exact .inl rfl | exact .inr (.inl rfl) | exact .inr (.inr rfl)) rfl ?_)
  | ((with_reducible show WE _ _ (Expr.Name "_law_some" _) _ _ _); refine we_name (i := 7) rfl (by first | exact .inl rfl | exact .inr (.inl rfl) | exact .inr (.inr rfl)) rfl ?_)
  | ((with_reducible show WE _ _ (Expr.Name "_law_numbers" _) _ _ _); refine we_name (i := 8) rfl (by first | exact .inl rfl | exact .inr (.inl rfl) | exact .inr (.inr rfl)) rfl ?_)
  | ((with_reducible show WE _ _ (Expr.Name "_law_rests" _) _ _ _); refine we_name (i := 9) rfl (by first | exact .inl rfl | exact .inr (.inl rfl) | exact .inr (.inr rfl)) rfl ?_)
  | ((with_reducible show WE _ _ (Expr.Name "_law_kept" _) _ _ _); refine we_name (i := 10) rfl (by first | exact .inl rfl | exact .inr (.inl rfl) | exact .inr (.inr rfl)) rfl ?_)
  | ((with_reducible show WE _ _ (Expr.Name "_law_due_here" _) _ _ _); refine we_name (i := 11) rfl (by first | exact .inl rfl | exact .inr (.inl rfl) | exact .inr (.inr rfl)) rfl ?_)
  | ((with_reducible show WE _ _ (Expr.Name "_law_told" _) _ _ _); refine we_name (i := 12) rfl (by first | exact .inl rfl | exact .inr (.inl rfl) | exact .inr (.inr rfl)) rfl ?_)
  | ((with_reducible show WE _ _ (Expr.Name "_law_one" _) _ _ _); refine we_name (i := 13) rfl (by first | exact .inl rfl | exact .inr (.inl rfl) | exact .inr (.inr rfl)) rfl ?_)
  | ((with_reducible show WE _ _ (Expr.Name "_law_k" _) _ _ _); refine we_name (i := 14) rfl (by first | exact .inl rfl | exact .inr (.inl rfl) | exact .inr (.inr rfl)) rfl ?_)
  | ((with_reducible show WE _ _ (Expr.Name "_law_x" _) _ _ _); refine we_name (i := 15) rfl (by first | exact .inl rfl | exact .inr (.inl rfl) | exact .inr (.inr rfl)) rfl ?_)
  | ((with_reducible show WE _ _ (Expr.Name "list" _) _ _ _); refine we_bltn (v := .ty "list") rfl (by assumption) (by decide +kernel) rfl ?_))
local macro_rules | `(tactic| walk_at "t") => `(tactic| first
  | ((with_reducible show WS _ _ (Stmt.Assign [Expr.Name "_law_script" _] _ _) _ _ _); refine ws_set (i := 0) (by assumption) rfl (by first | exact .inl rfl | exact .inr rfl) ?_)
  | ((with_reducible show WG _ _ (Expr.Name "_law_script" _) _ _ _ _); refine wg_name (i := 0) (by assumption) rfl (by first | exact .inl rfl | exact .inr rfl) ?_)
  | ((with_reducible show WS _ _ (Stmt.Assign [Expr.Name "_law_bag_here" _] _ _) _ _ _); refine ws_set (i := 1) (by assumption) rfl (by first | exact .inl rfl | exact .inr rfl) ?_)
  | ((with_reducible show WG _ _ (Expr.Name "_law_bag_here" _) _ _ _ _); refine wg_name (i := 1) (by assumption) rfl (by first | exact .inl rfl | exact .inr rfl) ?_)
  | ((with_reducible show WS _ _ (Stmt.Assign [Expr.Name "_law_turn" _] _ _) _ _ _); refine ws_set (i := 2) (by assumption) rfl (by first | exact .inl rfl | exact .inr rfl) ?_)
  | ((with_reducible show WG _ _ (Expr.Name "_law_turn" _) _ _ _ _); refine wg_name (i := 2) (by assumption) rfl (by first | exact .inl rfl | exact .inr rfl) ?_)
  | ((with_reducible show WS _ _ (Stmt.Assign [Expr.Name "_law_few" _] _ _) _ _ _); refine ws_set (i := 3) (by assumption) rfl (by first | exact .inl rfl | exact .inr rfl) ?_)
  | ((with_reducible show WG _ _ (Expr.Name "_law_few" _) _ _ _ _); refine wg_name (i := 3) (by assumption) rfl (by first | exact .inl rfl | exact .inr rfl) ?_)
  | ((with_reducible show WS _ _ (Stmt.Assign [Expr.Name "_law_wide" _] _ _) _ _ _); refine ws_set (i := 4) (by assumption) rfl (by first | exact .inl rfl | exact .inr rfl) ?_)
  | ((with_reducible show WG _ _ (Expr.Name "_law_wide" _) _ _ _ _); refine wg_name (i := 4) (by assumption) rfl (by first | exact .inl rfl | exact .inr rfl) ?_)
  | ((with_reducible show WS _ _ (Stmt.Assign [Expr.Name "_law_long" _] _ _) _ _ _); refine ws_set (i := 5) (by assumption) rfl (by first | exact .inl rfl | exact .inr rfl) ?_)
  | ((with_reducible show WG _ _ (Expr.Name "_law_long" _) _ _ _ _); refine wg_name (i := 5) (by assumption) rfl (by first | exact .inl rfl | exact .inr rfl) ?_)
  | ((with_reducible show WS _ _ (Stmt.Assign [Expr.Name "_law_spots_in" _] _ _) _ _ _); refine ws_set (i := 6) (by assumption) rfl (by first | exact .inl rfl | exact .inr rfl) ?_)
  | ((with_reducible show WG _ _ (Expr.Name "_law_spots_in" _) _ _ _ _); refine wg_name (i := 6) (by assumption) rfl (by first | exact .inl rfl | exact .inr rfl) ?_)
  | ((with_reducible show WS _ _ (Stmt.Assign [Expr.Name "_law_some" _] _ _) _ _ _); refine ws_set (i := 7) (by assumption) rfl (by first | exact .inl rfl | exact .inr rfl) ?_)
  | ((with_reducible show WG _ _ (Expr.Name "_law_some" _) _ _ _ _); refine wg_name (i := 7) (by assumption) rfl (by first | exact .inl rfl | exact .inr rfl) ?_)
  | ((with_reducible show WS _ _ (Stmt.Assign [Expr.Name "_law_numbers" _] _ _) _ _ _); refine ws_set (i := 8) (by assumption) rfl (by first | exact .inl rfl | exact .inr rfl) ?_)
  | ((with_reducible show WG _ _ (Expr.Name "_law_numbers" _) _ _ _ _); refine wg_name (i := 8) (by assumption) rfl (by first | exact .inl rfl | exact .inr rfl) ?_)
  | ((with_reducible show WS _ _ (Stmt.Assign [Expr.Name "_law_rests" _] _ _) _ _ _); refine ws_set (i := 9) (by assumption) rfl (by first | exact .inl rfl | exact .inr rfl) ?_)
  | ((with_reducible show WG _ _ (Expr.Name "_law_rests" _) _ _ _ _); refine wg_name (i := 9) (by assumption) rfl (by first | exact .inl rfl | exact .inr rfl) ?_)
  | ((with_reducible show WS _ _ (Stmt.Assign [Expr.Name "_law_kept" _] _ _) _ _ _); refine ws_set (i := 10) (by assumption) rfl (by first | exact .inl rfl | exact .inr rfl) ?_)
  | ((with_reducible show WG _ _ (Expr.Name "_law_kept" _) _ _ _ _); refine wg_name (i := 10) (by assumption) rfl (by first | exact .inl rfl | exact .inr rfl) ?_)
  | ((with_reducible show WS _ _ (Stmt.Assign [Expr.Name "_law_due_here" _] _ _) _ _ _); refine ws_set (i := 11) (by assumption) rfl (by first | exact .inl rfl | exact .inr rfl) ?_)
  | ((with_reducible show WG _ _ (Expr.Name "_law_due_here" _) _ _ _ _); refine wg_name (i := 11) (by assumption) rfl (by first | exact .inl rfl | exact .inr rfl) ?_)
  | ((with_reducible show WS _ _ (Stmt.Assign [Expr.Name "_law_told" _] _ _) _ _ _); refine ws_set (i := 12) (by assumption) rfl (by first | exact .inl rfl | exact .inr rfl) ?_)
  | ((with_reducible show WG _ _ (Expr.Name "_law_told" _) _ _ _ _); refine wg_name (i := 12) (by assumption) rfl (by first | exact .inl rfl | exact .inr rfl) ?_)
  | ((with_reducible show WS _ _ (Stmt.Assign [Expr.Name "_law_one" _] _ _) _ _ _); refine ws_set (i := 13) (by assumption) rfl (by first | exact .inl rfl | exact .inr rfl) ?_)
  | ((with_reducible show WG _ _ (Expr.Name "_law_one" _) _ _ _ _); refine wg_name (i := 13) (by assumption) rfl (by first | exact .inl rfl | exact .inr rfl) ?_)
  | ((with_reducible show WS _ _ (Stmt.Assign [Expr.Name "_law_k" _] _ _) _ _ _); refine ws_set (i := 14) (by assumption) rfl (by first | exact .inl rfl | exact .inr rfl) ?_)
  | ((with_reducible show WG _ _ (Expr.Name "_law_k" _) _ _ _ _); refine wg_name (i := 14) (by assumption) rfl (by first | exact .inl rfl | exact .inr rfl) ?_)
  | ((with_reducible show WS _ _ (Stmt.Assign [Expr.Name "_law_x" _] _ _) _ _ _); refine ws_set (i := 15) (by assumption) rfl (by first | exact .inl rfl | exact .inr rfl) ?_)
  | ((with_reducible show WG _ _ (Expr.Name "_law_x" _) _ _ _ _); refine wg_name (i := 15) (by assumption) rfl (by first | exact .inl rfl | exact .inr rfl) ?_)
  | ((with_reducible show WS _ _ (Stmt.Assign [Expr.Tuple [Expr.Name "_law_few" _, Expr.Name "_law_wide" _, Expr.Name "_law_long" _] _ _] (Expr.Tuple _ _ _) _) _ _ _); first | refine ws_par3 (i := 3) (j := 4) (l := 5) (by assumption) rfl rfl rfl (by decide) (by decide) (by decide) rfl rfl rfl rfl ?_ | refine ws_asg ?_)
  | ((with_reducible show WS _ _ (Stmt.Assign [Expr.Tuple [Expr.Name "_law_some" _, Expr.Name "_law_numbers" _] _ _] (Expr.Tuple _ _ _) _) _ _ _); first | refine ws_par (i := 7) (j := 8) (by assumption) rfl rfl (by decide) rfl rfl rfl ?_ | refine ws_asg ?_)
  | ((with_reducible show WS _ _ (Stmt.Assign [Expr.Tuple [Expr.Name "_law_kept" _, Expr.Name "_law_due_here" _] _ _] (Expr.Tuple _ _ _) _) _ _ _); first | refine ws_par (i := 10) (j := 11) (by assumption) rfl rfl (by decide) rfl rfl rfl ?_ | refine ws_asg ?_)
  | ((with_reducible show WS _ _ (Stmt.Assign [Expr.Tuple _ _ _] _ _) _ _ _); refine ws_asg ?_))
local macro_rules | `(tactic| walk_at "c") => `(tactic| first
  | ((with_reducible show WE _ _ (Expr.Call (Expr.Name "_law_bag" _) _ [] _) _ _ _); refine we_call (x := "_law_bag") (by assumption) (by walk_at "r") rfl ?_)
  | ((with_reducible show WE _ _ (Expr.Call (Expr.Name "_law_alike" _) _ [] _) _ _ _); refine we_call (x := "_law_alike") (by assumption) (by walk_at "r") rfl ?_)
  | ((with_reducible show WE _ _ (Expr.Call (Expr.Name "write_book" _) _ [] _) _ _ _); refine we_call (x := "write_book") (by assumption) (by walk_at "r") rfl ?_)
  | ((with_reducible show WE _ _ (Expr.Call (Expr.Name "read_book" _) _ [] _) _ _ _); refine we_call (x := "read_book") (by assumption) (by walk_at "r") rfl ?_)
  | ((with_reducible show WE _ _ (Expr.Call (Expr.Name "write_formula" _) _ [] _) _ _ _); refine we_call (x := "write_formula") (by assumption) (by walk_at "r") rfl ?_)
  | ((with_reducible show WE _ _ (Expr.Call (Expr.Name "read_formula" _) _ [] _) _ _ _); refine we_call (x := "read_formula") (by assumption) (by walk_at "r") rfl ?_)
  | ((with_reducible show WE _ _ (Expr.Call (Expr.Name "_law_draw" _) _ [] _) _ _ _); refine we_call (x := "_law_draw") (by assumption) (by walk_at "r") rfl ?_)
  | ((with_reducible show WE _ _ (Expr.Call (Expr.Name "_law_due" _) _ [] _) _ _ _); refine we_call (x := "_law_due") (by assumption) (by walk_at "r") rfl ?_)
  | ((with_reducible show WE _ _ (Expr.Call (Expr.Name "write_table" _) _ [] _) _ _ _); refine we_call (x := "write_table") (by assumption) (by walk_at "r") rfl ?_)
  | ((with_reducible show WE _ _ (Expr.Call (Expr.Name "read_table" _) _ [] _) _ _ _); refine we_call (x := "read_table") (by assumption) (by walk_at "r") rfl ?_)
  | ((with_reducible show WE _ _ (Expr.Call (Expr.Name "_law_number" _) _ [] _) _ _ _); refine we_call (x := "_law_number") (by assumption) (by walk_at "r") rfl ?_)
  | ((with_reducible show WE _ _ (Expr.Call (Expr.Name "write_book" _) [] [_] _) _ _ _); refine we_callK0 (x := "write_book") (ks := ["book"]) (by assumption) (by walk_at "r") rfl ?_)
  | ((with_reducible show WE _ _ (Expr.Call (Expr.Name "write_formula" _) [] [_] _) _ _ _); refine we_callK0 (x := "write_formula") (ks := ["formula"]) (by assumption) (by walk_at "r") rfl ?_)
  | ((with_reducible show WE _ _ (Expr.Call (Expr.Name "write_table" _) [] [_] _) _ _ _); refine we_callK0 (x := "write_table") (ks := ["table"]) (by assumption) (by walk_at "r") rfl ?_)
  | ((with_reducible show WE _ _ (Expr.Call (Expr.Name "read_book" _) [] [_] _) _ _ _); refine we_callK0 (x := "read_book") (ks := ["text"]) (by assumption) (by walk_at "r") rfl ?_)
  | ((with_reducible show WE _ _ (Expr.Call (Expr.Name "read_formula" _) [] [_] _) _ _ _); refine we_callK0 (x := "read_formula") (ks := ["text"]) (by assumption) (by walk_at "r") rfl ?_)
  | ((with_reducible show WE _ _ (Expr.Call (Expr.Name "read_table" _) [] [_] _) _ _ _); refine we_callK0 (x := "read_table") (ks := ["text"]) (by assumption) (by walk_at "r") rfl ?_))
local macro_rules | `(tactic| walk_at "tg") => `(tactic| first
  | exact Tg.one (i := 14) rfl rfl
  | exact Tg.one (i := 15) rfl rfl)
theorem fn_law {f : Addr} {fd : FuncData} (b_range : mg "range" = none) (b_list : mg "list" = none) (b_set : mg "set" = none) (b_sorted : mg "sorted" = none)
    (d_bag : FD P w K mg base 1 "_law_bag" 1 TBag) (d_draw : FD P w K mg base 2 "_law_draw" 2 TDraw) (d_number : FD P w K mg base 3 "_law_number" 1 TNum) (d_due : FD P w K mg base 1 "_law_due" 3 TDue) (d_alike : FD P w K mg base 4 "_law_alike" 2 (TAlk 3))
    (k1 : FDK P w K mg base 1 "write_book" 0 ["book"] [0] TWriteB) (k2 : FDK P w K mg base 1 "write_formula" 0 ["formula"] [0] TWriteF) (k3 : FDK P w K mg base 1 "write_table" 0 ["table"] [0] TWriteT)
    (k4 : FDK P w K mg base 3 "read_book" 0 ["text"] [0] TReadB) (k5 : FDK P w K mg base 2 "read_formula" 0 ["text"] [0] TReadF) (k6 : FDK P w K mg base 2 "read_table" 0 ["text"] [0] TReadT)
    (d1 : FD P w K mg base 1 "write_book" 1 TWriteB) (d2 : FD P w K mg base 1 "write_formula" 1 TWriteF) (d3 : FD P w K mg base 1 "write_table" 1 TWriteT)
    (d4 : FD P w K mg base 3 "read_book" 1 TReadB) (d5 : FD P w K mg base 2 "read_formula" 1 TReadF) (d6 : FD P w K mg base 2 "read_table" 1 TReadT)
    (Fn : L2.Fun K "law" "law" st_law f fd) :
    FnOk P w K mg base (L2.CX P w) 5 f fd ["_law_script"] (spG K TLaw) := by
  refine fn_ok Fn sc_law rfl TLaw_len ?_
  intro cdv A outer s H E N hr ds M Q X' h
  obtain ⟨ns, rfl, hns, q⟩ := h
  show WB _ _ _ [some _, none, none, none, none, none, none, none, none, none, none, none, none, none, none, none] _ _
  refine wb_cons ?_
  walk_at "g"
  refine ⟨ns, rfl, by omega, fun b L hL => ?_⟩
  refine wb_cons ?_
  refine ws_for N (wi_range1 rfl (by assumption) ?_)
  walk_at "g"
  refine ⟨by decide, by decide, fun j δ' M' => ∃ (x2 x3 x4 x5 x6 x7 x8 x9 x10 x11 x12 x13 x14 x15 : Option D) (rest : Cells) (L' : List D), δ' = [some (.lst (ns.map D.int)), some (.cel b), x2, x3, x4, x5, x6, x7, x8, x9, x10, x11, x12, x13, x14, x15] ∧ M' = rest ++ (b, .lst L') :: M ∧ BagL L', ?_, fun _ _ _ _ _ => trivial, ?_, ?_⟩
  · exact ⟨_, _, _, _, _, _, _, _, _, _, _, _, _, _, [], L, rfl, rfl, hL⟩
  · rintro j d δ' M' hd ⟨x2, x3, x4, x5, x6, x7, x8, x9, x10, x11, x12, x13, x14, x15, rest, L0, rfl, rfl, hL0⟩
    obtain ⟨hj, rfl⟩ := rangeD_inv hd
    walk_at "s"
    refine wb_drop (List.sublist_append_right _ _) ?_
    walk_at "g"
    refine tdraw (by decide) (by decide) (cl_0 ⟨hL0, fun few L1 hf0 hf1 hL1 => ?_⟩)
    walk_at "g"
    refine tdraw (by decide) (by decide) (cl_0 ⟨hL1, fun w0 L2 hw0 hw1 hL2 => ?_⟩)
    walk_at "g"
    refine tdraw (by decide) (by decide) (cl_0 ⟨hL2, fun l0 L3 hl0 hl1 hL3 => ?_⟩)
    walk_at "g"
    refine we_froz 0 (we_lc N (by walk_at "tg") (by walk_at "ok") (wi_range1 rfl (by assumption) ?_))
    walk_at "g"
    refine ⟨by omega, by omega, fun i acc M' => ∃ (is : List Int) (L' : List D), acc = is.map D.int ∧ is.length = i ∧ (∀ z ∈ is, Small z) ∧ M' = (b, .lst L') :: M ∧ BagL L', ?_, fun _ _ _ _ _ _ => trivial, ?_, ?_⟩
    · exact ⟨[], L3, rfl, rfl, by simp, rfl, hL3⟩
    · rintro i d acc M' p hd ⟨is, L', rfl, rfl, hs, rfl, hL'⟩
      obtain ⟨hi, rfl⟩ := rangeD_inv hd
      refine ⟨_, rfl, fun B => ?_⟩
      walk_at "g"
      refine tnum (cl_skip (cl_0 ⟨hL', fun z L'' hz hL'' => ⟨_, _, rfl, ?_, is ++ [z], L'', by simp, by simp, ?_, rfl, hL''⟩⟩))
      · rw [List.length_map, sizeLine_eq]; omega
      · intro y hy
        rcases List.mem_append.mp hy with h | h
        · exact hs y h
        · rw [List.mem_singleton.mp h]; exact hz
    · rintro acc M' p ⟨is0, L4, rfl, hlen, hs0, rfl, hL4⟩
      rw [rangeD_len] at hlen
      refine ⟨p, _, rfl, rfl, is0, .l, by omega, fun sp hsp hmem hspl => ?_⟩
      have hsps : ∀ z ∈ sp, Small z := fun z hz => hs0 z ((hmem z).mp hz)
      walk_at "g"
      -- the book
      refine we_froz 0 (we_lc N (by walk_at "tg") (by walk_at "ok") (wi_list ?_))
      walk_at "g"
      refine ⟨_, .l, fun i acc M' => ∃ (xs : List (Int × Int)) (L' : List D), acc = bookD xs ∧ xs.map Prod.fst = sp.take i ∧ (∀ z ∈ xs, Small z.1 ∧ Small z.2) ∧ M' = (b, .lst L') :: M ∧ BagL L', ?_, fun _ _ _ _ _ _ => .l, ?_, ?_⟩
      · exact ⟨[], L4, rfl, rfl, by simp, rfl, hL4⟩
      · rintro i d acc M' p hd ⟨xs, L', rfl, hx, hs, rfl, hL'⟩
        rw [List.getElem?_map] at hd
        cases e : sp[i]? with
        | none => rw [e] at hd; cases hd
        | some x =>
          obtain rfl : d = .int x := by rw [e] at hd; exact (Option.some.inj hd).symm
          have hxs := hsps x (List.mem_of_getElem? e)
          have hi := (List.getElem?_eq_some_iff.mp e).1
          refine ⟨_, rfl, fun B => ?_⟩
          walk_at "g"
          refine tnum (cl_skip (cl_0 ⟨hL', fun z L'' hz hL'' => ?_⟩))
          walk_at "g"
          refine ⟨_, _, rfl, ?_, xs ++ [(x, z)], L'', by simp [bookD, itemD], ?_, ?_, rfl, hL''⟩
          · have : xs.length = (sp.take i).length := by rw [← hx, List.length_map]
            unfold bookD
            rw [List.length_map, this, List.length_take, sizeLine_eq]; omega
          · rw [List.map_append, hx, List.take_succ, e]; rfl
          · intro y hy
            rcases List.mem_append.mp hy with h | h
            · exact hs y h
            · rw [List.mem_singleton.mp h]; exact ⟨hxs, hz⟩
      · rintro acc M' p5 ⟨xs, L5, rfl, hx, hs5, rfl, hL5⟩
        rw [List.length_map, List.take_length] at hx
        have hxl : xs.length = sp.length := by rw [← hx, List.length_map]
        have hbk : BookOk xs := ⟨by omega, hs5, by rw [hx]; exact hsp⟩
        refine ⟨p5, _, rfl, rfl, ?_⟩
        walk_at "g"
        -- the numbers
        refine we_froz 0 (we_lc N (by walk_at "tg") (by walk_at "ok") (wi_range1 rfl (by assumption) ?_))
        walk_at "g"
        refine ⟨by omega, by omega, fun i acc M' => ∃ (is : List Int) (L' : List D), acc = is.map D.int ∧ is.length = i ∧ (∀ z ∈ is, Small z) ∧ M' = (b, .lst L') :: M ∧ BagL L', ?_, fun _ _ _ _ _ _ => trivial, ?_, ?_⟩
        · exact ⟨[], L5, rfl, rfl, by simp, rfl, hL5⟩
        · rintro i d acc M' p hd ⟨is, L', rfl, rfl, hs, rfl, hL'⟩
          obtain ⟨hi, rfl⟩ := rangeD_inv hd
          refine ⟨_, rfl, fun B => ?_⟩
          walk_at "g"
          refine tnum (cl_skip (cl_0 ⟨hL', fun z L'' hz hL'' => ⟨_, _, rfl, ?_, is ++ [z], L'', by simp, by simp, ?_, rfl, hL''⟩⟩))
          · rw [List.length_map, sizeLine_eq]; omega
          · intro y hy
            rcases List.mem_append.mp hy with h | h
            · exact hs y h
            · rw [List.mem_singleton.mp h]; exact hz
        · rintro acc M' p6 ⟨is, L6, rfl, hil, hs6, rfl, hL6⟩
          rw [rangeD_len] at hil
          refine ⟨p6, _, rfl, rfl, ?_⟩
          walk_at "g"
          refine ⟨_, _, rfl, ?_⟩
          -- the rests
          refine wb_cons (ws_setLC (i := 9) N rfl rfl (lc_froz 0 (lc_lc N (by walk_at "tg") (by walk_at "ok") (wi_range1 rfl (by assumption) ?_))))
          walk_at "g"
          refine ⟨by omega, by omega, fun i acc M' => ∃ (os : List (Option Int)) (L' : List D), acc = os.map optD ∧ os.length = i ∧ (∀ o ∈ os, ∀ z, o = some z → 0 ≤ z ∧ z < 1 + l0) ∧ M' = (b, .lst L') :: M ∧ BagL L', ?_, fun _ _ _ _ _ _ => trivial, ?_, ?_⟩
          · exact ⟨[], L6, rfl, rfl, by simp, rfl, hL6⟩
          · rintro i d acc M' p hd ⟨os, L', rfl, rfl, hs, rfl, hL'⟩
            obtain ⟨hi, rfl⟩ := rangeD_inv hd
            have hacc : (os.map optD).length < sizeLine := by rw [List.length_map, sizeLine_eq]; omega
            refine ⟨_, rfl, fun B => ?_⟩
            walk_at "g"
            refine we_lst ?_
            walk_at "g"
            refine tdraw (by omega) (by omega) (cl_skip (cl_0 ⟨hL', fun r L'' hr0 hr1 hL'' => ?_⟩))
            walk_at "g"
            refine tdraw (by decide) (by decide) (cl_skip (cl_0 ⟨hL'', fun r2 L3' hr20 hr21 hL3' => ?_⟩))
            have e2 : r2 = 0 ∨ r2 = 1 := by omega
            rcases e2 with rfl | rfl
            · refine rix_l ⟨.non, rfl, _, _, rfl, hacc, os ++ [none], L3', by simp [optD], by simp, ?_, rfl, hL3'⟩
              intro o ho z hz
              rcases List.mem_append.mp ho with h | h
              · exact hs o h z hz
              · rw [List.mem_singleton.mp h] at hz; cases hz
            · refine rix_l ⟨.int r, rfl, _, _, rfl, hacc, os ++ [some r], L3', by simp [optD], by simp, ?_, rfl, hL3'⟩
              intro o ho z hz
              rcases List.mem_append.mp ho with h | h
              · exact hs o h z hz
              · rw [List.mem_singleton.mp h] at hz; cases hz; exact ⟨hr0, hr1⟩
          · rintro acc M' p7 ⟨os, L7, rfl, hol, hs7, rfl, hL7⟩
            rw [rangeD_len] at hol
            refine ⟨p7, _, rfl, rfl, ?_⟩
            walk_at "g"
            have hog : ∀ o ∈ os, optG o := fun o ho z hz => by have := hs7 o ho z hz; show z.natAbs ≤ 10 ^ 30; omega
            have hrest : ∀ o ∈ os, RestOk os.length o := fun o ho z hz => by have := hs7 o ho z hz; omega
            have hine : is ≠ [] := fun z => by rw [z] at hil; simp at hil; omega
            have hone : os ≠ [] := fun z => by rw [z] at hol; simp at hol; omega
            refine we_lst ?_
            walk_at "g"
            refine ⟨_, _, rfl, .inl .l, ?_⟩
            walk_at "g"
            refine ⟨_, _, rfl, .inl .l, ?_⟩
            walk_at "g"
            refine ⟨_, _, rfl, .inl .l, ?_⟩
            walk_at "g"
            refine ⟨xs, is, os, rfl, hbk, by omega, hs6, by omega, hog, ?_⟩
            walk_at "g"
            refine ⟨_, _, rfl, ?_⟩
            walk_at "g"
            refine we_lst ?_
            walk_at "g"
            refine ⟨xs, rfl, hbk, ?_⟩
            walk_at "g"
            refine ⟨is, rfl, by omega, hs6, ?_⟩
            walk_at "g"
            refine ⟨os, rfl, by omega, hog, ?_⟩
            walk_at "g"
            refine ⟨_, _, rfl, alk_strs (zs := [bookW xs, rowW (is.map some), rowW os]) .l .l (by show 3 ≤ 1000; decide), ?_⟩
            walk_at "g"
            refine we_lst ?_
            walk_at "g"
            refine ⟨xs, rfl, hbk, fun p1 => ?_⟩
            walk_at "g"
            refine ⟨is, rfl, hine, by omega, hs6, fun p2 => ?_⟩
            walk_at "g"
            refine ⟨os, rfl, hone, by omega, hrest, fun p3 => ?_⟩
            walk_at "g"
            refine ⟨_, _, rfl, alk_l .l .l (by show 3 ≤ 1000000; decide) (.cons (alk_book (.c 2 rfl) .l (by omega)) (.cons (alk_ints (.c 1 rfl) .l (by omega)) (.cons (alk_opts (.c 0 rfl) .l (by omega)) .nil))), ?_⟩
            walk_at "g"
            refine we_lst ?_
            walk_at "g"
            refine req_dN (p := py (threeD xs is os)) (q := py (threeD xs is os)) (.inl ⟨ok_three, rfl⟩) (.inl ⟨ok_three, rfl⟩) shaped_three shaped_three ?_
            rw [PySem.SeqAt.eqv_refl _ (SeqAt.canLay_of_shaped shaped_three)]
            walk_at "g"
            refine ws_for N (wi_list ?_)
            walk_at "g"
            refine ⟨_, .l, fun j' δ' M' => ∃ (y2 y3 y4 y5 y6 y7 y8 y9 y12 y13 y14 y15 : Option D) (l1 l2 l3 : List D), δ' = [some (.lst (ns.map D.int)), some (.cel b), y2, y3, y4, y5, y6, y7, y8, y9, some (threeD xs is os), some (.lst [.str (bookW xs), .str (rowW (is.map some)), .str (rowW os)]), y12, y13, y14, y15] ∧
              M' = (p3, .lst l3) :: (p2, .lst l2) :: (p1, .lst l1) :: (b, .lst L7) :: M ∧ l1.length ≤ 100 + j' ∧ l2.length ≤ 100 + j' ∧ l3.length ≤ 100 + j', ?_, fun _ _ _ _ _ => .l, ?_, ?_⟩
            · refine ⟨_, _, _, _, _, _, _, _, _, _, _, _, bookD xs, is.map D.int, os.map optD, rfl, rfl, ?_, ?_, ?_⟩
              · unfold bookD; rw [List.length_map]; omega
              · rw [List.length_map]; omega
              · rw [List.length_map]; omega
            · rintro j' d δ' M' hd ⟨y2, y3, y4, y5, y6, y7, y8, y9, y12, y13, y14, y15, l1, l2, l3, rfl, rfl, hl1, hl2, hl3⟩
              have hj3 : j' < 3 := (List.getElem?_eq_some_iff.mp hd).1
              have e3 : j' = 0 ∨ j' = 1 ∨ j' = 2 := by omega
              rcases e3 with rfl | rfl | rfl
              all_goals
                cases hd
                walk_at "g"
                refine ⟨by rw [sizeLine_eq]; omega, _, _, _, _, _, _, _, _, _, _, _, _, _, _, _, rfl, rfl, ?_, ?_, ?_⟩
                all_goals (first | omega | (rw [List.length_append, List.length_singleton]; omega))
            · rintro δ' M' ⟨y2, y3, y4, y5, y6, y7, y8, y9, y12, y13, y14, y15, l1, l2, l3, rfl, rfl, hl1, hl2, hl3⟩
              walk_at "g"
              refine we_lst ?_
              walk_at "g"
              refine ⟨xs, rfl, hbk, fun q1 => ?_⟩
              walk_at "g"
              refine ⟨is, rfl, hine, by omega, hs6, fun q2 => ?_⟩
              walk_at "g"
              refine ⟨os, rfl, hone, by omega, hrest, fun q3 => ?_⟩
              walk_at "g"
              refine ⟨_, _, rfl, alk_l .l .l (by show 3 ≤ 1000000; decide) (.cons (alk_book (.c 2 rfl) .l (by omega)) (.cons (alk_ints (.c 1 rfl) .l (by omega)) (.cons (alk_opts (.c 0 rfl) .l (by omega)) .nil))), ?_⟩
              walk_at "g"
              exact ⟨_, _, _, _, _, _, _, _, _, _, _, _, _, _, [_, _, _, _, _, _], L7, rfl, rfl, hL7⟩
  · rintro δ' M' ⟨x2, x3, x4, x5, x6, x7, x8, x9, x10, x11, x12, x13, x14, x15, rest, L0, rfl, rfl, hL0⟩
    refine wb_drop (List.sublist_append_right _ _) ?_
    walk_at "g"
    refine we_lst ?_
    walk_at "g"
    refine we_lst ?_
    walk_at "g"
    all_goals (first | exact (⟨by decide, by decide⟩ : CPw _ _) | skip)
    refine ⟨[(-3, 0), (0, -10 ^ 30)], rfl, bk_6, ?_⟩
    walk_at "g"
    refine ⟨[], by rw [eq_1], bk_0, fun p1 => ?_⟩
    walk_at "g"
    refine we_lst ?_
    walk_at "g"
    refine ⟨[0, -7], rfl, by decide, sm_7, ?_⟩
    walk_at "g"
    refine ⟨[-1], by rw [eq_2], by simp, by decide, sm_1, fun p2 => ?_⟩
    walk_at "g"
    refine we_lst ?_
    walk_at "g"
    refine we_lst ?_
    walk_at "g"
    refine ⟨[none, some 1], rfl, by decide, og_8, ?_⟩
    walk_at "g"
    refine ⟨[none], by rw [eq_3], by simp, by decide, ro_3, fun p3 => ?_⟩
    walk_at "g"
    refine ⟨[some 0], by rw [eq_4], by simp, by decide, ro_4, fun p4 => ?_⟩
    walk_at "g"
    refine ⟨[(-10, -1), (0, 5)], by rw [eq_5], bk_5, fun p5 => ?_⟩
    walk_at "g"
    refine .inr (.inr ⟨_, _, .l, .l, by show 8 ≤ sizeLine; decide, ?_⟩)
    walk_at "s"
    walk_at "t"
    refine we_lst (wa_cons (we_add (we_str (we_mulS (we_str (we_int ⟨_, _, rfl, rfl, mo_0, ?_⟩))))))
    walk_at "g"
    refine we_lst ?_
    walk_at "g"
    refine we_lst ?_
    walk_at "g"
    refine we_lst ?_
    walk_at "g"
    refine we_lst ?_
    walk_at "g"
    refine we_lst ?_
    walk_at "g"
    refine ⟨_, _, rfl, alk_l .l .l (by show 8 ≤ 1000000; decide) (.cons (by rw [eq_6]; exact .str _) (.cons (alk_book (zs := []) (.c 4 rfl) .l (by decide)) (.cons (by rw [eq_7]; exact .str _) (.cons (alk_ints (zs := [-1]) (.c 3 rfl) .l (by decide)) (.cons (by rw [eq_8]; exact .str _)
      (.cons (alk_opts (zs := [none]) (.c 2 rfl) .l (by decide)) (.cons (alk_opts (zs := [some 0]) (.c 1 rfl) .l (by decide)) (.cons (alk_book (zs := [(-10, -1), (0, 5)]) (.c 0 rfl) .l (by decide)) .nil)))))))), ?_⟩
    exact q _
    all_goals first | exact ⟨by decide, by decide⟩ | decide +kernel
end
/-! End -/
theorem law_sp {K : PySem.W.Frag} {H : Hp} {a : Addr} {ns : List Int} (hl : ns.length ≤ 63) (hS : SqL K H a (ns.map V.int)) : spG K TLaw [.ref a] H (fun v _ => v = .bl true) fun _ _ _ => False :=
  ⟨H, [], [.lst (ns.map D.int)], { le := Same.refl _, nd := List.Pairwise.nil, cell := (fun _ h => nomatch h), out := (fun _ h => nomatch h), slot := (fun _ _ h => nomatch h), dlen := rfl }, .cons (.lst hS (Reps.ints ns)) .nil, ns, rfl, hl, fun M' v F' H' _ _ r => by cases r; rfl⟩
theorem top_all {l : PySem.W.OpenLaw} {w : World} {K : PySem.W.Frag} {h : Heap} {mg : Str → Option Value} {fa f_integer_in f_item_in f_write_book f_read_book f_write_formula f_read_formula f_write_table f_read_table f_l_bag f_l_stirred f_l_draw f_l_alike f_l_number f_l_due f_law : Addr} (X : K.In h) (G : h.Ns mainGlobals mg) (hfa : mg "law" = some (.ref fa))
    {od_integer_in an_integer_in : Option Addr} {sl_integer_in : Array (Option Value)} {oc_integer_in kV_integer_in dc_integer_in pm_integer_in cd_integer_in ct_integer_in : Value}
    {od_item_in an_item_in : Option Addr} {sl_item_in : Array (Option Value)} {oc_item_in kV_item_in dc_item_in pm_item_in cd_item_in ct_item_in : Value}
    {od_write_book an_write_book : Option Addr} {sl_write_book : Array (Option Value)} {oc_write_book kV_write_book dc_write_book pm_write_book cd_write_book ct_write_book : Value}
    {od_read_book an_read_book : Option Addr} {sl_read_book : Array (Option Value)} {oc_read_book kV_read_book dc_read_book pm_read_book cd_read_book ct_read_book : Value}
    {od_write_formula an_write_formula : Option Addr} {sl_write_formula : Array (Option Value)} {oc_write_formula kV_write_formula dc_write_formula pm_write_formula cd_write_formula ct_write_formula : Value}
    {od_read_formula an_read_formula : Option Addr} {sl_read_formula : Array (Option Value)} {oc_read_formula kV_read_formula dc_read_formula pm_read_formula cd_read_formula ct_read_formula : Value}
    {od_write_table an_write_table : Option Addr} {sl_write_table : Array (Option Value)} {oc_write_table kV_write_table dc_write_table pm_write_table cd_write_table ct_write_table : Value}
    {od_read_table an_read_table : Option Addr} {sl_read_table : Array (Option Value)} {oc_read_table kV_read_table dc_read_table pm_read_table cd_read_table ct_read_table : Value}
    {od_l_bag an_l_bag : Option Addr} {sl_l_bag : Array (Option Value)} {oc_l_bag kV_l_bag dc_l_bag pm_l_bag cd_l_bag ct_l_bag : Value}
    {od_l_stirred an_l_stirred : Option Addr} {sl_l_stirred : Array (Option Value)} {oc_l_stirred kV_l_stirred dc_l_stirred pm_l_stirred cd_l_stirred ct_l_stirred : Value}
    {od_l_draw an_l_draw : Option Addr} {sl_l_draw : Array (Option Value)} {oc_l_draw kV_l_draw dc_l_draw pm_l_draw cd_l_draw ct_l_draw : Value}
    {od_l_alike an_l_alike : Option Addr} {sl_l_alike : Array (Option Value)} {oc_l_alike kV_l_alike dc_l_alike pm_l_alike cd_l_alike ct_l_alike : Value}
    {od_l_number an_l_number : Option Addr} {sl_l_number : Array (Option Value)} {oc_l_number kV_l_number dc_l_number pm_l_number cd_l_number ct_l_number : Value}
    {od_l_due an_l_due : Option Addr} {sl_l_due : Array (Option Value)} {oc_l_due kV_l_due dc_l_due pm_l_due cd_l_due ct_l_due : Value}
    {od_law an_law : Option Addr} {sl_law : Array (Option Value)} {oc_law kV_law dc_law pm_law cd_law ct_law : Value}
    (a_integer_in : PySem.W.nsIn K mainGlobals "integer_in" = some (some (.ref f_integer_in))) (l_integer_in : K.lookup f_integer_in = some ⟨oc_integer_in, od_integer_in, .func (PySem.W.fnOf "integer_in" "integer_in" (defArgs st_integer_in) (defBody st_integer_in) (defScope st_integer_in) .none kV_integer_in dc_integer_in pm_integer_in an_integer_in cd_integer_in ct_integer_in), sl_integer_in⟩) (c_integer_in : PySem.W.codeIn K cd_integer_in "integer_in" = true) (k_integer_in : PySem.W.keepIn K (.ref f_integer_in) = true)
    (a_item_in : PySem.W.nsIn K mainGlobals "item_in" = some (some (.ref f_item_in))) (l_item_in : K.lookup f_item_in = some ⟨oc_item_in, od_item_in, .func (PySem.W.fnOf "item_in" "item_in" (defArgs st_item_in) (defBody st_item_in) (defScope st_item_in) .none kV_item_in dc_item_in pm_item_in an_item_in cd_item_in ct_item_in), sl_item_in⟩) (c_item_in : PySem.W.codeIn K cd_item_in "item_in" = true) (k_item_in : PySem.W.keepIn K (.ref f_item_in) = true)
    (a_write_book : PySem.W.nsIn K mainGlobals "write_book" = some (some (.ref f_write_book))) (l_write_book : K.lookup f_write_book = some ⟨oc_write_book, od_write_book, .func (PySem.W.fnOf "write_book" "write_book" (defArgs st_write_book) (defBody st_write_book) (defScope st_write_book) .none kV_write_book dc_write_book pm_write_book an_write_book cd_write_book ct_write_book), sl_write_book⟩) (c_write_book : PySem.W.codeIn K cd_write_book "write_book" = true) (k_write_book : PySem.W.keepIn K (.ref f_write_book) = true)
    (a_read_book : PySem.W.nsIn K mainGlobals "read_book" = some (some (.ref f_read_book))) (l_read_book : K.lookup f_read_book = some ⟨oc_read_book, od_read_book, .func (PySem.W.fnOf "read_book" "read_book" (defArgs st_read_book) (defBody st_read_book) (defScope st_read_book) .none kV_read_book dc_read_book pm_read_book an_read_book cd_read_book ct_read_book), sl_read_book⟩) (c_read_book : PySem.W.codeIn K cd_read_book "read_book" = true) (k_read_book : PySem.W.keepIn K (.ref f_read_book) = true)
    (a_write_formula : PySem.W.nsIn K mainGlobals "write_formula" = some (some (.ref f_write_formula))) (l_write_formula : K.lookup f_write_formula = some ⟨oc_write_formula, od_write_formula, .func (PySem.W.fnOf "write_formula" "write_formula" (defArgs st_write_formula) (defBody st_write_formula) (defScope st_write_formula) .none kV_write_formula dc_write_formula pm_write_formula an_write_formula cd_write_formula ct_write_formula), sl_write_formula⟩) (c_write_formula : PySem.W.codeIn K cd_write_formula "write_formula" = true) (k_write_formula : PySem.W.keepIn K (.ref f_write_formula) = true)
    (a_read_formula : PySem.W.nsIn K mainGlobals "read_formula" = some (some (.ref f_read_formula))) (l_read_formula : K.lookup f_read_formula = some ⟨oc_read_formula, od_read_formula, .func (PySem.W.fnOf "read_formula" "read_formula" (defArgs st_read_formula) (defBody st_read_formula) (defScope st_read_formula) .none kV_read_formula dc_read_formula pm_read_formula an_read_formula cd_read_formula ct_read_formula), sl_read_formula⟩) (c_read_formula : PySem.W.codeIn K cd_read_formula "read_formula" = true) (k_read_formula : PySem.W.keepIn K (.ref f_read_formula) = true)
    (a_write_table : PySem.W.nsIn K mainGlobals "write_table" = some (some (.ref f_write_table))) (l_write_table : K.lookup f_write_table = some ⟨oc_write_table, od_write_table, .func (PySem.W.fnOf "write_table" "write_table" (defArgs st_write_table) (defBody st_write_table) (defScope st_write_table) .none kV_write_table dc_write_table pm_write_table an_write_table cd_write_table ct_write_table), sl_write_table⟩) (c_write_table : PySem.W.codeIn K cd_write_table "write_table" = true) (k_write_table : PySem.W.keepIn K (.ref f_write_table) = true)
    (a_read_table : PySem.W.nsIn K mainGlobals "read_table" = some (some (.ref f_read_table))) (l_read_table : K.lookup f_read_table = some ⟨oc_read_table, od_read_table, .func (PySem.W.fnOf "read_table" "read_table" (defArgs st_read_table) (defBody st_read_table) (defScope st_read_table) .none kV_read_table dc_read_table pm_read_table an_read_table cd_read_table ct_read_table), sl_read_table⟩) (c_read_table : PySem.W.codeIn K cd_read_table "read_table" = true) (k_read_table : PySem.W.keepIn K (.ref f_read_table) = true)
    (a_l_bag : PySem.W.nsIn K mainGlobals "_law_bag" = some (some (.ref f_l_bag))) (l_l_bag : K.lookup f_l_bag = some ⟨oc_l_bag, od_l_bag, .func (PySem.W.fnOf "_law_bag" "_law_bag" (defArgs st_l_bag) (defBody st_l_bag) (defScope st_l_bag) .none kV_l_bag dc_l_bag pm_l_bag an_l_bag cd_l_bag ct_l_bag), sl_l_bag⟩) (c_l_bag : PySem.W.codeIn K cd_l_bag "_law_bag" = true) (k_l_bag : PySem.W.keepIn K (.ref f_l_bag) = true)
    (a_l_stirred : PySem.W.nsIn K mainGlobals "_law_stirred" = some (some (.ref f_l_stirred))) (l_l_stirred : K.lookup f_l_stirred = some ⟨oc_l_stirred, od_l_stirred, .func (PySem.W.fnOf "_law_stirred" "_law_stirred" (defArgs st_l_stirred) (defBody st_l_stirred) (defScope st_l_stirred) .none kV_l_stirred dc_l_stirred pm_l_stirred an_l_stirred cd_l_stirred ct_l_stirred), sl_l_stirred⟩) (c_l_stirred : PySem.W.codeIn K cd_l_stirred "_law_stirred" = true) (k_l_stirred : PySem.W.keepIn K (.ref f_l_stirred) = true)
    (a_l_draw : PySem.W.nsIn K mainGlobals "_law_draw" = some (some (.ref f_l_draw))) (l_l_draw : K.lookup f_l_draw = some ⟨oc_l_draw, od_l_draw, .func (PySem.W.fnOf "_law_draw" "_law_draw" (defArgs st_l_draw) (defBody st_l_draw) (defScope st_l_draw) .none kV_l_draw dc_l_draw pm_l_draw an_l_draw cd_l_draw ct_l_draw), sl_l_draw⟩) (c_l_draw : PySem.W.codeIn K cd_l_draw "_law_draw" = true) (k_l_draw : PySem.W.keepIn K (.ref f_l_draw) = true)
    (a_l_alike : PySem.W.nsIn K mainGlobals "_law_alike" = some (some (.ref f_l_alike))) (l_l_alike : K.lookup f_l_alike = some ⟨oc_l_alike, od_l_alike, .func (PySem.W.fnOf "_law_alike" "_law_alike" (defArgs st_l_alike) (defBody st_l_alike) (defScope st_l_alike) .none kV_l_alike dc_l_alike pm_l_alike an_l_alike cd_l_alike ct_l_alike), sl_l_alike⟩) (c_l_alike : PySem.W.codeIn K cd_l_alike "_law_alike" = true) (k_l_alike : PySem.W.keepIn K (.ref f_l_alike) = true)
    (a_l_number : PySem.W.nsIn K mainGlobals "_law_number" = some (some (.ref f_l_number))) (l_l_number : K.lookup f_l_number = some ⟨oc_l_number, od_l_number, .func (PySem.W.fnOf "_law_number" "_law_number" (defArgs st_l_number) (defBody st_l_number) (defScope st_l_number) .none kV_l_number dc_l_number pm_l_number an_l_number cd_l_number ct_l_number), sl_l_number⟩) (c_l_number : PySem.W.codeIn K cd_l_number "_law_number" = true) (k_l_number : PySem.W.keepIn K (.ref f_l_number) = true)
    (a_l_due : PySem.W.nsIn K mainGlobals "_law_due" = some (some (.ref f_l_due))) (l_l_due : K.lookup f_l_due = some ⟨oc_l_due, od_l_due, .func (PySem.W.fnOf "_law_due" "_law_due" (defArgs st_l_due) (defBody st_l_due) (defScope st_l_due) .none kV_l_due dc_l_due pm_l_due an_l_due cd_l_due ct_l_due), sl_l_due⟩) (c_l_due : PySem.W.codeIn K cd_l_due "_law_due" = true) (k_l_due : PySem.W.keepIn K (.ref f_l_due) = true)
    (a_law : PySem.W.nsIn K mainGlobals "law" = some (some (.ref f_law))) (l_law : K.lookup f_law = some ⟨oc_law, od_law, .func (PySem.W.fnOf "law" "law" (defArgs st_law) (defBody st_law) (defScope st_law) .none kV_law dc_law pm_law an_law cd_law ct_law), sl_law⟩) (c_law : PySem.W.codeIn K cd_law "law" = true) (k_law : PySem.W.keepIn K (.ref f_law) = true)
    (z_int : PySem.W.nsIn K mainGlobals "int" = some none)
    (z_len : PySem.W.nsIn K mainGlobals "len" = some none)
    (z_str : PySem.W.nsIn K mainGlobals "str" = some none)
    (z_enumerate : PySem.W.nsIn K mainGlobals "enumerate" = some none)
    (z_abs : PySem.W.nsIn K mainGlobals "abs" = some none)
    (z_range : PySem.W.nsIn K mainGlobals "range" = some none)
    (z_isinstance : PySem.W.nsIn K mainGlobals "isinstance" = some none)
    (z_all : PySem.W.nsIn K mainGlobals "all" = some none)
    (z_bool : PySem.W.nsIn K mainGlobals "bool" = some none)
    (z_list : PySem.W.nsIn K mainGlobals "list" = some none)
    (z_tuple : PySem.W.nsIn K mainGlobals "tuple" = some none)
    (z_set : PySem.W.nsIn K mainGlobals "set" = some none)
    (z_sorted : PySem.W.nsIn K mainGlobals "sorted" = some none)
    {t_DIGITS : Tok} (n_DIGITS : PySem.W.nsIn K mainGlobals "DIGITS" = some (some (.str "0123456789" t_DIGITS)))
    {t_MOST_DIGITS : Tok} (n_MOST_DIGITS : PySem.W.nsIn K mainGlobals "MOST_DIGITS" = some (some (.int (31) t_MOST_DIGITS)))
    {t_MOST : Tok} (n_MOST : PySem.W.nsIn K mainGlobals "MOST" = some (some (.int (1000000000000000000000000000000) t_MOST)))
    {t_MOST_ITEMS : Tok} (n_MOST_ITEMS : PySem.W.nsIn K mainGlobals "MOST_ITEMS" = some (some (.int (24) t_MOST_ITEMS)))
    {t_MOST_FORMULA : Tok} (n_MOST_FORMULA : PySem.W.nsIn K mainGlobals "MOST_FORMULA" = some (some (.int (41) t_MOST_FORMULA)))
    {t_MOST_TABLE : Tok} (n_MOST_TABLE : PySem.W.nsIn K mainGlobals "MOST_TABLE" = some (some (.int (60) t_MOST_TABLE)))
    : ∃ fd : FuncData, (∀ (s : Shared) (v : Value), BindsTo s fd ⟨[v], []⟩ [("_law_script", v)]) ∧ ∀ base : Heap, K.In base → base.Ns mainGlobals mg → FnOk l.prog w K mg base (L2.CX l.prog w) 5 fa fd ["_law_script"] (spG K TLaw) := by
  have e := hfa.symm.trans (PySem.W.mg_of X G a_law)
  cases e
  have F_integer_in := fun_mk (st := st_integer_in) l_integer_in c_integer_in k_integer_in
  have m_integer_in := PySem.W.mg_of X G a_integer_in
  have b_integer_in := F_integer_in.binds (ps := ["word"]) fun _ _ _ _ _ _ us hl => match us, hl with | [_], _ => rfl
  have F_item_in := fun_mk (st := st_item_in) l_item_in c_item_in k_item_in
  have m_item_in := PySem.W.mg_of X G a_item_in
  have b_item_in := F_item_in.binds (ps := ["word"]) fun _ _ _ _ _ _ us hl => match us, hl with | [_], _ => rfl
  have F_write_book := fun_mk (st := st_write_book) l_write_book c_write_book k_write_book
  have m_write_book := PySem.W.mg_of X G a_write_book
  have b_write_book := F_write_book.binds (ps := ["book"]) fun _ _ _ _ _ _ us hl => match us, hl with | [_], _ => rfl
  have F_read_book := fun_mk (st := st_read_book) l_read_book c_read_book k_read_book
  have m_read_book := PySem.W.mg_of X G a_read_book
  have b_read_book := F_read_book.binds (ps := ["text"]) fun _ _ _ _ _ _ us hl => match us, hl with | [_], _ => rfl
  have F_write_formula := fun_mk (st := st_write_formula) l_write_formula c_write_formula k_write_formula
  have m_write_formula := PySem.W.mg_of X G a_write_formula
  have b_write_formula := F_write_formula.binds (ps := ["formula"]) fun _ _ _ _ _ _ us hl => match us, hl with | [_], _ => rfl
  have F_read_formula := fun_mk (st := st_read_formula) l_read_formula c_read_formula k_read_formula
  have m_read_formula := PySem.W.mg_of X G a_read_formula
  have b_read_formula := F_read_formula.binds (ps := ["text"]) fun _ _ _ _ _ _ us hl => match us, hl with | [_], _ => rfl
  have F_write_table := fun_mk (st := st_write_table) l_write_table c_write_table k_write_table
  have m_write_table := PySem.W.mg_of X G a_write_table
  have b_write_table := F_write_table.binds (ps := ["table"]) fun _ _ _ _ _ _ us hl => match us, hl with | [_], _ => rfl
  have F_read_table := fun_mk (st := st_read_table) l_read_table c_read_table k_read_table
  have m_read_table := PySem.W.mg_of X G a_read_table
  have b_read_table := F_read_table.binds (ps := ["text"]) fun _ _ _ _ _ _ us hl => match us, hl with | [_], _ => rfl
  have F_l_bag := fun_mk (st := st_l_bag) l_l_bag c_l_bag k_l_bag
  have m_l_bag := PySem.W.mg_of X G a_l_bag
  have b_l_bag := F_l_bag.binds (ps := ["_law_script"]) fun _ _ _ _ _ _ us hl => match us, hl with | [_], _ => rfl
  have F_l_stirred := fun_mk (st := st_l_stirred) l_l_stirred c_l_stirred k_l_stirred
  have m_l_stirred := PySem.W.mg_of X G a_l_stirred
  have b_l_stirred := F_l_stirred.binds (ps := ["_law_bag_here", "_law_wide"]) fun _ _ _ _ _ _ us hl => match us, hl with | [_, _], _ => rfl
  have F_l_draw := fun_mk (st := st_l_draw) l_l_draw c_l_draw k_l_draw
  have m_l_draw := PySem.W.mg_of X G a_l_draw
  have b_l_draw := F_l_draw.binds (ps := ["_law_bag_here", "_law_wide"]) fun _ _ _ _ _ _ us hl => match us, hl with | [_, _], _ => rfl
  have F_l_alike := fun_mk (st := st_l_alike) l_l_alike c_l_alike k_l_alike
  have m_l_alike := PySem.W.mg_of X G a_l_alike
  have b_l_alike := F_l_alike.binds (ps := ["_law_found", "_law_due_here"]) fun _ _ _ _ _ _ us hl => match us, hl with | [_, _], _ => rfl
  have F_l_number := fun_mk (st := st_l_number) l_l_number c_l_number k_l_number
  have m_l_number := PySem.W.mg_of X G a_l_number
  have b_l_number := F_l_number.binds (ps := ["_law_bag_here"]) fun _ _ _ _ _ _ us hl => match us, hl with | [_], _ => rfl
  have F_l_due := fun_mk (st := st_l_due) l_l_due c_l_due k_l_due
  have m_l_due := PySem.W.mg_of X G a_l_due
  have b_l_due := F_l_due.binds (ps := ["_law_some", "_law_numbers", "_law_rests"]) fun _ _ _ _ _ _ us hl => match us, hl with | [_, _, _], _ => rfl
  have F_law := fun_mk (st := st_law) l_law c_law k_law
  have m_law := PySem.W.mg_of X G a_law
  have b_law := F_law.binds (ps := ["_law_script"]) fun _ _ _ _ _ _ us hl => match us, hl with | [_], _ => rfl
  have y_int := PySem.W.mg_none_of X G z_int
  have y_len := PySem.W.mg_none_of X G z_len
  have y_str := PySem.W.mg_none_of X G z_str
  have y_enumerate := PySem.W.mg_none_of X G z_enumerate
  have y_abs := PySem.W.mg_none_of X G z_abs
  have y_range := PySem.W.mg_none_of X G z_range
  have y_isinstance := PySem.W.mg_none_of X G z_isinstance
  have y_all := PySem.W.mg_none_of X G z_all
  have y_bool := PySem.W.mg_none_of X G z_bool
  have y_list := PySem.W.mg_none_of X G z_list
  have y_tuple := PySem.W.mg_none_of X G z_tuple
  have y_set := PySem.W.mg_none_of X G z_set
  have y_sorted := PySem.W.mg_none_of X G z_sorted
  have v_DIGITS : ∃ t, mg "DIGITS" = some (.str "0123456789" t) := ⟨_, PySem.W.mg_of X G n_DIGITS⟩
  have v_MOST_DIGITS : ∃ t, mg "MOST_DIGITS" = some (.int (31) t) := ⟨_, PySem.W.mg_of X G n_MOST_DIGITS⟩
  have v_MOST : ∃ t, mg "MOST" = some (.int (1000000000000000000000000000000) t) := ⟨_, PySem.W.mg_of X G n_MOST⟩
  have v_MOST_ITEMS : ∃ t, mg "MOST_ITEMS" = some (.int (24) t) := ⟨_, PySem.W.mg_of X G n_MOST_ITEMS⟩
  have v_MOST_FORMULA : ∃ t, mg "MOST_FORMULA" = some (.int (41) t) := ⟨_, PySem.W.mg_of X G n_MOST_FORMULA⟩
  have v_MOST_TABLE : ∃ t, mg "MOST_TABLE" = some (.int (60) t) := ⟨_, PySem.W.mg_of X G n_MOST_TABLE⟩
  refine ⟨PySem.W.fnOf "law" "law" (defArgs st_law) (defBody st_law) (defScope st_law) .none kV_law dc_law pm_law an_law cd_law ct_law, fun s v => .of_eq rfl, fun base _ _ => ?_⟩
  have e_int := fd_ok (n := 1) F_integer_in m_integer_in rfl b_integer_in TIntIn_mono (fn_integer_in (base := base) (w := w) (P := l.prog) y_int y_len v_DIGITS v_MOST_DIGITS v_MOST F_integer_in)
  have e_item := fd_ok (n := 1) F_item_in m_item_in rfl b_item_in TItem_mono (fn_item_in y_len e_int F_item_in)
  have g_wb := fn_write_book (base := base) (w := w) (P := l.prog) y_str F_write_book
  have g_wf := fn_write_formula (base := base) (w := w) (P := l.prog) y_str F_write_formula
  have g_wt := fn_write_table (base := base) (w := w) (P := l.prog) y_str F_write_table
  have g_rb := fn_read_book y_len y_enumerate v_MOST_ITEMS e_item F_read_book
  have g_rf := fn_read_formula y_enumerate v_MOST_FORMULA e_int F_read_formula
  have g_rt := fn_read_table y_len y_enumerate v_MOST_TABLE e_int F_read_table
  have e_bag := fd_ok (n := 1) F_l_bag m_l_bag rfl b_l_bag TBag_mono (fn_bag (base := base) (w := w) (P := l.prog) y_int y_abs F_l_bag)
  have e_stirred := fd_ok (n := 2) F_l_stirred m_l_stirred rfl b_l_stirred TDraw_mono (fn_stirred (base := base) (w := w) (P := l.prog) y_int y_range F_l_stirred)
  have e_draw := fd_ok (n := 2) F_l_draw m_l_draw rfl b_l_draw TDraw_mono (fn_draw y_len y_int e_stirred F_l_draw)
  have e_al0 := fd_ok (n := 2) F_l_alike m_l_alike rfl b_l_alike (TAlk_mono 0) (fn_alike (base := base) (w := w) (P := l.prog) y_isinstance y_len y_all y_range y_bool y_int y_str y_list y_tuple F_l_alike 0 0 (fun m e => nomatch e))
  have e_al1 := fd_ok (n := 2) F_l_alike m_l_alike rfl b_l_alike (TAlk_mono 1) (fn_alike y_isinstance y_len y_all y_range y_bool y_int y_str y_list y_tuple F_l_alike 1 1 (fun m e => by cases e; exact e_al0))
  have e_al2 := fd_ok (n := 2) F_l_alike m_l_alike rfl b_l_alike (TAlk_mono 2) (fn_alike y_isinstance y_len y_all y_range y_bool y_int y_str y_list y_tuple F_l_alike 2 2 (fun m e => by cases e; exact e_al1))
  have e_al3 := fd_ok (n := 2) F_l_alike m_l_alike rfl b_l_alike (TAlk_mono 3) (fn_alike y_isinstance y_len y_all y_range y_bool y_int y_str y_list y_tuple F_l_alike 3 3 (fun m e => by cases e; exact e_al2))
  have e_num := fd_ok (n := 1) F_l_number m_l_number rfl b_l_number TNum_mono (fn_number e_draw F_l_number)
  have e_due := fd_ok (n := 3) F_l_due m_l_due rfl b_l_due TDue_mono (fn_due (base := base) (w := w) (P := l.prog) y_str F_l_due)
  exact fn_law y_range y_list y_set y_sorted e_bag e_draw e_num e_due e_al3
    (fdk_ok F_write_book m_write_book (by simp) (fun _ _ _ _ _ _ us ws hu hw => match us, ws, hu, hw with | [], [_], _, _ => rfl) TWriteB_mono g_wb)
    (fdk_ok F_write_formula m_write_formula (by simp) (fun _ _ _ _ _ _ us ws hu hw => match us, ws, hu, hw with | [], [_], _, _ => rfl) TWriteF_mono g_wf)
    (fdk_ok F_write_table m_write_table (by simp) (fun _ _ _ _ _ _ us ws hu hw => match us, ws, hu, hw with | [], [_], _, _ => rfl) TWriteT_mono g_wt)
    (fdk_ok F_read_book m_read_book (by simp) (fun _ _ _ _ _ _ us ws hu hw => match us, ws, hu, hw with | [], [_], _, _ => rfl) TReadB_mono g_rb)
    (fdk_ok F_read_formula m_read_formula (by simp) (fun _ _ _ _ _ _ us ws hu hw => match us, ws, hu, hw with | [], [_], _, _ => rfl) TReadF_mono g_rf)
    (fdk_ok F_read_table m_read_table (by simp) (fun _ _ _ _ _ _ us ws hu hw => match us, ws, hu, hw with | [], [_], _, _ => rfl) TReadT_mono g_rt)
    (fd_ok (n := 1) F_write_book m_write_book rfl b_write_book TWriteB_mono g_wb)
    (fd_ok (n := 1) F_write_formula m_write_formula rfl b_write_formula TWriteF_mono g_wf)
    (fd_ok (n := 1) F_write_table m_write_table rfl b_write_table TWriteT_mono g_wt)
    (fd_ok (n := 1) F_read_book m_read_book rfl b_read_book TReadB_mono g_rb)
    (fd_ok (n := 1) F_read_formula m_read_formula rfl b_read_formula TReadF_mono g_rf)
    (fd_ok (n := 1) F_read_table m_read_table rfl b_read_table TReadT_mono g_rt)
    F_law
theorem walk {l : PySem.W.OpenLaw} {q : Program} {loose : List Str} {XP : (Str → Option Value) → Heap → Prop} {YP : World → Heap → Prop} {d : DefRec} {K : Params → PySem.W.Frag} (hn : l.most = some 63) (hdf : d.params.defaults = [])
    (hY : ∀ (w : World) (h : Heap), YP w h → (K w.params).In h)
    (F : ∀ (w : World) (mg : Str → Option Value) (fa : Addr) (h : Heap), (K w.params).In h → h.Ns mainGlobals mg → mg d.name = some (.ref fa) →
      ∃ fd : FuncData, (∀ (s : Shared) (u : Value), BindsTo s fd ⟨[u], []⟩ [("_law_script", u)]) ∧ ∀ base : Heap, (K w.params).In base → base.Ns mainGlobals mg → FnOk l.prog w (K w.params) mg base (L2.CX l.prog w) 5 fa fd ["_law_script"] (spG (K w.params) TLaw)) :
    PySem.W.WalkO q loose XP YP l.row.toRowW d [] (fun f vs => PySem.call f vs) :=
  L2.walk_of (n := 63) (k := 5) (x := "_law_script") (CX := fun w => L2.CX l.prog w) (sp := fun w => spG (K w.params) TLaw) hn (by decide) hdf ⟨rfl, by decide, by decide⟩ hY F (fun w H a ns hl _ hS => law_sp hl hS) fun w H s e s' z => by
    obtain ⟨_, _, _, _, _, _, _, _, _, _, _, _, z⟩ := z
    exact z
end PW
open PySem PySem.W PyProof.Rows
set_option maxHeartbeats 0 in
theorem PySem.Challenge.cw_keeprests_k59_texts_written_and_read_holds : PySem.Challenge.rw_keeprests_k59_texts_written_and_read.Holds := by
  w_on; o_law; k_head; (case hw => w_witness2)
  k_fill
  refine PW.walk (l := PySem.Challenge.rw_keeprests_k59_texts_written_and_read) rfl rfl (fun w h Y => PySem.W.kIn_of Y) ?F
  case F =>
    intro w mg fa h KX G hmg
    refine' PW.top_all KX G hmg ?a_integer_in ?l_integer_in ?c_integer_in ?k_integer_in ?a_item_in ?l_item_in ?c_item_in ?k_item_in ?a_write_book ?l_write_book ?c_write_book ?k_write_book ?a_read_book ?l_read_book ?c_read_book ?k_read_book ?a_write_formula ?l_write_formula ?c_write_formula ?k_write_formula ?a_read_formula ?l_read_formula ?c_read_formula ?k_read_formula ?a_write_table ?l_write_table ?c_write_table ?k_write_table ?a_read_table ?l_read_table ?c_read_table ?k_read_table ?a_l_bag ?l_l_bag ?c_l_bag ?k_l_bag ?a_l_stirred ?l_l_stirred ?c_l_stirred ?k_l_stirred ?a_l_draw ?l_l_draw ?c_l_draw ?k_l_draw ?a_l_alike ?l_l_alike ?c_l_alike ?k_l_alike ?a_l_number ?l_l_number ?c_l_number ?k_l_number ?a_l_due ?l_l_due ?c_l_due ?k_l_due ?a_law ?l_law ?c_law ?k_law ?z_int ?z_len ?z_str ?z_enumerate ?z_abs ?z_range ?z_isinstance ?z_all ?z_bool ?z_list ?z_tuple ?z_set ?z_sorted ?n_DIGITS ?n_MOST_DIGITS ?n_MOST ?n_MOST_ITEMS ?n_MOST_FORMULA ?n_MOST_TABLE
    (case a_integer_in => k_is)
    (case l_integer_in => k_is)
    (case c_integer_in => k_is)
    (case k_integer_in => k_is)
    (case a_item_in => k_is)
    (case l_item_in => k_is)
    (case c_item_in => k_is)
    (case k_item_in => k_is)
    (case a_write_book => k_is)
    (case l_write_book => k_is)
    (case c_write_book => k_is)
    (case k_write_book => k_is)
    (case a_read_book => k_is)
    (case l_read_book => k_is)
    (case c_read_book => k_is)
    (case k_read_book => k_is)
    (case a_write_formula => k_is)
    (case l_write_formula => k_is)
    (case c_write_formula => k_is)
    (case k_write_formula => k_is)
    (case a_read_formula => k_is)
    (case l_read_formula => k_is)
    (case c_read_formula => k_is)
    (case k_read_formula => k_is)
    (case a_write_table => k_is)
    (case l_write_table => k_is)
    (case c_write_table => k_is)
    (case k_write_table => k_is)
    (case a_read_table => k_is)
    (case l_read_table => k_is)
    (case c_read_table => k_is)
    (case k_read_table => k_is)
    (case a_l_bag => k_is)
    (case l_l_bag => k_is)
    (case c_l_bag => k_is)
    (case k_l_bag => k_is)
    (case a_l_stirred => k_is)
    (case l_l_stirred => k_is)
    (case c_l_stirred => k_is)
    (case k_l_stirred => k_is)
    (case a_l_draw => k_is)
    (case l_l_draw => k_is)
    (case c_l_draw => k_is)
    (case k_l_draw => k_is)
    (case a_l_alike => k_is)
    (case l_l_alike => k_is)
    (case c_l_alike => k_is)
    (case k_l_alike => k_is)
    (case a_l_number => k_is)
    (case l_l_number => k_is)
    (case c_l_number => k_is)
    (case k_l_number => k_is)
    (case a_l_due => k_is)
    (case l_l_due => k_is)
    (case c_l_due => k_is)
    (case k_l_due => k_is)
    (case a_law => k_is)
    (case l_law => k_is)
    (case c_law => k_is)
    (case k_law => k_is)
    (case z_int => k_is)
    (case z_len => k_is)
    (case z_str => k_is)
    (case z_enumerate => k_is)
    (case z_abs => k_is)
    (case z_range => k_is)
    (case z_isinstance => k_is)
    (case z_all => k_is)
    (case z_bool => k_is)
    (case z_list => k_is)
    (case z_tuple => k_is)
    (case z_set => k_is)
    (case z_sorted => k_is)
    (case n_DIGITS => k_is)
    (case n_MOST_DIGITS => k_is)
    (case n_MOST => k_is)
    (case n_MOST_ITEMS => k_is)
    (case n_MOST_FORMULA => k_is)
    (case n_MOST_TABLE => k_is)
