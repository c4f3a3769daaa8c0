import PyProof.Rows.All
import Wide.All
import OpenK.AllK
import Wide.FinOn
import HandS.ForMost
import HandS.Exc
import HandS.ExcOwn
import HandS.WordsExc
import HandS.Flow
import HandS.SortKw
import HandS.TupAny
import HandS.TupMul
import HandS.Walk
import HandS.Wide
import HandS.IsInst
import HandS.Deep
import HandS.TryOnly
import PyProof.ListMulRoad
import PyProof.FactsAll.tuple_2
import PyProof.Draws
import KE.GoesMore
import KE.GoesEnum
import KE.KTupSum
import HandS.Zip
import HandS.Style
import HandS.Conv
import HandS.SortInts
import PySem.Challenge.RW_cornersandfaces_k54_whole_tables_and_mea
set_option Elab.async false
set_option linter.all false
set_option maxRecDepth 100000
set_option maxHeartbeats 4000000
/-! Cf, part A: data trees, the store, what stands for what, canonical readings. -/
namespace Cf
open PySem PySem.Spec L2
open PyProof.Rows hiding St

/-- a value as a tree; `lst`: a list that nobody changes; `fz`: the script; `ref n`: the list number n of the store -/
inductive D where
  | non | bl (b : Bool) | int (i : Int) | str (x : Str) | tup (xs : List D) | lst (xs : List D) | fz (xs : List D) | ref (n : Nat)

/-- the store: lists that may be changed -/
abbrev S := List (List D)
/-- an error: its class by name, its fields -/
structure Exn where
  cls : Str
  fs : List (Str × D)
inductive Res (α : Type) where
  | ok (a : α) (s : S)
  | exc (x : Exn) (s : S)
  | bad
def Res.bind {α β : Type} (r : Res α) (k : α → S → Res β) : Res β := match r with
  | .ok a s => k a s
  | .exc x s => .exc x s
  | .bad => .bad
@[simp] theorem Res.bind_ok {α β : Type} (a : α) (s : S) (k : α → S → Res β) : (Res.ok a s).bind k = k a s := id rfl
@[simp] theorem Res.bind_exc {α β : Type} (x : Exn) (s : S) (k : α → S → Res β) : (Res.exc x s).bind k = .exc x s := id rfl
@[simp] theorem Res.bind_bad {α β : Type} (k : α → S → Res β) : (Res.bad : Res α).bind k = .bad := id rfl

/-- where the store's lists lie; addresses of lists in the making -/
structure Wd where
  ρ : List Addr
  χ : List Addr

section
variable (K : PySem.W.Frag)
def LQ (w : Wd) (H : Hp) (a : Addr) (vs : List V) : Prop := a ∉ w.ρ ∧ a ∉ w.χ ∧ H a = some (.lst vs)
def FQ (w : Wd) (H : Hp) (a : Addr) (vs : List V) : Prop := ((a ∉ w.ρ ∧ a ∉ w.χ) ∧ ∃ o, H a = some (.frz o (.lst vs))) ∨ SqL K (fun _ => none) a vs
mutual
inductive R (w : Wd) (H : Hp) : D → V → Prop
  | non : R w H .non .non
  | bl (b : Bool) : R w H (.bl b) (.bl b)
  | int (i : Int) : R w H (.int i) (.int i)
  | str (x : Str) : R w H (.str x) (.str x)
  | tup {a : Addr} {ds : List D} {vs : List V} : a ∉ w.ρ ∧ a ∉ w.χ → H a = some (.tup vs) → Rs w H ds vs → R w H (.tup ds) (.ref a)
  | lst {a : Addr} {ds : List D} {vs : List V} : LQ w H a vs → Rs w H ds vs → R w H (.lst ds) (.ref a)
  | fz {a : Addr} {ds : List D} {vs : List V} : FQ K w H a vs → Rs w H ds vs → R w H (.fz ds) (.ref a)
  | ref {a : Addr} {n : Nat} : w.ρ[n]? = some a → R w H (.ref n) (.ref a)
inductive Rs (w : Wd) (H : Hp) : List D → List V → Prop
  | nil : Rs w H [] []
  | cons {d : D} {v : V} {ds : List D} {vs : List V} : R w H d v → Rs w H ds vs → Rs w H (d :: ds) (v :: vs)
end
end

structure Step (w : Wd) (H : Hp) (w' : Wd) (H' : Hp) : Prop where
  pre : ∀ (n : Nat) (a : Addr), w.ρ[n]? = some a → w'.ρ[n]? = some a
  chiS : ∀ a, a ∈ w.χ → a ∈ w'.χ
  chi : ∀ a, a ∈ w'.χ → a ∉ w.χ → H a = none
  keep : ∀ a o, H a = some o → a ∉ w.ρ → H' a = some o
  there : ∀ a o, H a = some o → ∃ o', H' a = some o'
  fresh : ∀ a, a ∈ w'.ρ → a ∉ w.ρ → H a = none

/-- the same, but lists in the making may have grown -/
structure PStep (w : Wd) (H : Hp) (w' : Wd) (H' : Hp) : Prop where
  pre : ∀ (n : Nat) (a : Addr), w.ρ[n]? = some a → w'.ρ[n]? = some a
  chiS : ∀ a, a ∈ w.χ → a ∈ w'.χ
  chi : ∀ a, a ∈ w'.χ → a ∉ w.χ → H a = none
  keep : ∀ a o, H a = some o → a ∉ w.ρ → a ∉ w.χ → H' a = some o
  there : ∀ a o, H a = some o → ∃ o', H' a = some o'
  fresh : ∀ a, a ∈ w'.ρ → a ∉ w.ρ → H a = none
section
variable {K : PySem.W.Frag} {w w' w1 w2 : Wd} {H H' H1 H2 : Hp}
theorem Step.p (st : Step w H w' H') : PStep w H w' H' := ⟨st.pre, st.chiS, st.chi, fun a o e n _ => st.keep a o e n, st.there, st.fresh⟩
theorem Step.refl : Step w H w H := ⟨fun _ _ h => h, fun _ h => h, fun _ h n => absurd h n, fun _ _ h _ => h, fun _ o h => ⟨o, h⟩, fun _ h n => absurd h n⟩
theorem mem_of_get {l : List Addr} {n : Nat} {a : Addr} (h : l[n]? = some a) : a ∈ l := List.mem_of_getElem? h
theorem Step.sub (st : Step w H w' H') {a : Addr} (h : a ∈ w.ρ) : a ∈ w'.ρ := by
  obtain ⟨n, hn⟩ := List.getElem?_of_mem h
  exact mem_of_get (st.pre n a hn)
theorem Step.was (st : Step w H w' H') {a : Addr} (h : H' a = none) : H a = none := by
  cases e : H a with
  | none => rfl
  | some o =>
    obtain ⟨o', q⟩ := st.there a o e
    rw [h] at q
    cases q
theorem Step.trans (a : Step w H w1 H1) (b : Step w1 H1 w2 H2) : Step w H w2 H2 where
  pre := fun n x h => b.pre n x (a.pre n x h)
  chiS := fun x h => b.chiS x (a.chiS x h)
  chi := fun x h hx => by
    by_cases q : x ∈ w1.χ
    · exact a.chi x q hx
    · exact a.was (b.chi x h q)
  keep := fun x o h hx => b.keep x o (a.keep x o h hx) (fun q => by rw [a.fresh x q hx] at h; cases h)
  there := fun x o h => by
    obtain ⟨o', q⟩ := a.there x o h
    exact b.there x o' q
  fresh := fun x h hx => by
    by_cases q : x ∈ w1.ρ
    · exact a.fresh x q hx
    · exact a.was (b.fresh x h q)
theorem PStep.was (st : PStep w H w' H') {a : Addr} (h : H' a = none) : H a = none := by
  cases e : H a with
  | none => rfl
  | some o =>
    obtain ⟨o', q⟩ := st.there a o e
    rw [h] at q
    cases q
theorem PStep.trans (a : PStep w H w1 H1) (b : Step w1 H1 w2 H2) : PStep w H w2 H2 where
  pre := fun n x h => b.pre n x (a.pre n x h)
  chiS := fun x h => b.chiS x (a.chiS x h)
  chi := fun x h hx => by
    by_cases q : x ∈ w1.χ
    · exact a.chi x q hx
    · exact a.was (b.chi x h q)
  keep := fun x o h hx hc => b.keep x o (a.keep x o h hx hc) (fun q => by rw [a.fresh x q hx] at h; cases h)
  there := fun x o h => by
    obtain ⟨o', q⟩ := a.there x o h
    exact b.there x o' q
  fresh := fun x h hx => by
    by_cases q : x ∈ w1.ρ
    · exact a.fresh x q hx
    · exact a.was (b.fresh x h q)
theorem PStep.notin (st : PStep w H w' H') {a : Addr} {o : HO} (h : H a = some o) (n : a ∉ w.ρ ∧ a ∉ w.χ) : a ∉ w'.ρ ∧ a ∉ w'.χ := by
  refine ⟨fun z => ?_, fun z => ?_⟩
  · rw [st.fresh a z n.1] at h
    cases h
  · rw [st.chi a z n.2] at h
    cases h
theorem LQ.pstep {a : Addr} {vs : List V} (h : LQ w H a vs) (st : PStep w H w' H') : LQ w' H' a vs := by
  obtain ⟨n1, n2, q⟩ := h
  have n := st.notin q ⟨n1, n2⟩
  exact ⟨n.1, n.2, st.keep a _ q n1 n2⟩
theorem LQ.step {a : Addr} {vs : List V} (h : LQ w H a vs) (st : Step w H w' H') : LQ w' H' a vs := h.pstep st.p
theorem FQ.pstep {a : Addr} {vs : List V} (h : FQ K w H a vs) (st : PStep w H w' H') : FQ K w' H' a vs := by
  rcases h with ⟨n, o, q⟩ | h
  · exact .inl ⟨st.notin q n, o, st.keep a _ q n.1 n.2⟩
  · exact .inr h
theorem FQ.step {a : Addr} {vs : List V} (h : FQ K w H a vs) (st : Step w H w' H') : FQ K w' H' a vs := h.pstep st.p
theorem FQ.sq {a : Addr} {vs : List V} (h : FQ K w H a vs) : SqL K H a vs := by
  rcases h with ⟨_, o, rd⟩ | h
  · exact .inl (.inr ⟨o, rd⟩)
  · rcases h with rd | h
    · rcases rd with q | ⟨o, q⟩ <;> cases q
    · exact .inr h
mutual
theorem R.pstep {d : D} {v : V} (st : PStep w H w' H') : R K w H d v → R K w' H' d v
  | .non => .non
  | .bl b => .bl b
  | .int i => .int i
  | .str x => .str x
  | .tup n h rs => .tup (st.notin h n) (st.keep _ _ h n.1 n.2) (Rs.pstep st rs)
  | .lst h rs => .lst (h.pstep st) (Rs.pstep st rs)
  | .fz h rs => .fz (h.pstep st) (Rs.pstep st rs)
  | .ref h => .ref (st.pre _ _ h)
theorem Rs.pstep {ds : List D} {vs : List V} (st : PStep w H w' H') : Rs K w H ds vs → Rs K w' H' ds vs
  | .nil => .nil
  | .cons r rs => .cons (R.pstep st r) (Rs.pstep st rs)
end
theorem R.step {d : D} {v : V} (st : Step w H w' H') (r : R K w H d v) : R K w' H' d v := r.pstep st.p
theorem Rs.step {ds : List D} {vs : List V} (st : Step w H w' H') (r : Rs K w H ds vs) : Rs K w' H' ds vs := r.pstep st.p
theorem Rs.length {ds : List D} {vs : List V} (h : Rs K w H ds vs) : ds.length = vs.length := by
  induction ds generalizing vs with
  | nil => cases h; rfl
  | cons d ds ih => cases h with | cons r rs => simp [ih rs]
theorem Rs.get {ds : List D} {vs : List V} (h : Rs K w H ds vs) {i : Nat} {d : D} (e : ds[i]? = some d) : ∃ v, vs[i]? = some v ∧ R K w H d v := by
  induction ds generalizing vs i with
  | nil => simp at e
  | cons x ds ih =>
    cases h with
    | cons r rs =>
      cases i with
      | zero => simp at e; subst e; exact ⟨_, rfl, r⟩
      | succ i => simp at e; simpa using ih rs e
theorem Rs.append {ds es : List D} {vs us : List V} (h : Rs K w H ds vs) (q : Rs K w H es us) : Rs K w H (ds ++ es) (vs ++ us) := by
  induction ds generalizing vs with
  | nil => cases h; exact q
  | cons x ds ih => cases h with | cons r rs => exact .cons r (ih rs)
theorem Rs.take {ds : List D} {vs : List V} (h : Rs K w H ds vs) (n : Nat) : Rs K w H (ds.take n) (vs.take n) := by
  induction ds generalizing vs n with
  | nil => cases h; simp; exact .nil
  | cons x ds ih =>
    cases h with
    | cons r rs =>
      cases n with
      | zero => exact .nil
      | succ n => exact .cons r (ih rs n)
theorem Rs.drop {ds : List D} {vs : List V} (h : Rs K w H ds vs) (n : Nat) : Rs K w H (ds.drop n) (vs.drop n) := by
  induction ds generalizing vs n with
  | nil => cases h; simp; exact .nil
  | cons x ds ih =>
    cases h with
    | cons r rs =>
      cases n with
      | zero => exact .cons r rs
      | succ n => exact ih rs n
theorem Rs.set {ds : List D} {vs : List V} (h : Rs K w H ds vs) (n : Nat) {d : D} {v : V} (r : R K w H d v) : Rs K w H (ds.set n d) (vs.set n v) := by
  induction ds generalizing vs n with
  | nil => cases h; exact .nil
  | cons x ds ih =>
    cases h with
    | cons r' rs =>
      cases n with
      | zero => exact .cons r rs
      | succ n => exact .cons r' (ih rs n)
theorem Rs.eraseIdx {ds : List D} {vs : List V} (h : Rs K w H ds vs) (n : Nat) : Rs K w H (ds.eraseIdx n) (vs.eraseIdx n) := by
  induction ds generalizing vs n with
  | nil => cases h; exact .nil
  | cons x ds ih =>
    cases h with
    | cons r' rs =>
      cases n with
      | zero => exact rs
      | succ n => exact .cons r' (ih rs n)
theorem Rs.reverse {ds : List D} {vs : List V} (h : Rs K w H ds vs) : Rs K w H ds.reverse vs.reverse := by
  induction ds generalizing vs with
  | nil => cases h; exact .nil
  | cons x ds ih => cases h with | cons r rs => simp only [List.reverse_cons]; exact (ih rs).append (.cons r .nil)
theorem Rs.rep {ds : List D} {vs : List V} (h : Rs K w H ds vs) (n : Nat) : Rs K w H (List.replicate n ds).flatten (List.replicate n vs).flatten := by
  induction n with
  | zero => exact .nil
  | succ n ih => simp only [List.replicate_succ, List.flatten_cons]; exact h.append ih
end

structure Sim (K : PySem.W.Frag) (w : Wd) (s : S) (H : Hp) : Prop where
  len : w.ρ.length = s.length
  nd : w.ρ.Nodup
  cell : ∀ (n : Nat) (ds : List D), s[n]? = some ds → ∃ a vs, w.ρ[n]? = some a ∧ H a = some (.lst vs) ∧ Rs K w H ds vs
  chi : ∀ a ∈ w.χ, a ∉ w.ρ ∧ ∃ o, H a = some o

section
variable {K : PySem.W.Frag} {w w' w1 w2 : Wd} {H H' H1 H2 : Hp} {s : S}
theorem Sim.notin (h : Sim K w s H) {p : Addr} (n : H p = none) : p ∉ w.ρ := by
  intro q
  obtain ⟨i, hi⟩ := List.getElem?_of_mem q
  have hl : i < s.length := by
    rw [← h.len]
    exact (List.getElem?_eq_some_iff.mp hi).1
  obtain ⟨a, vs, e1, e2, _⟩ := h.cell i _ (List.getElem?_eq_getElem hl)
  rw [hi] at e1
  cases e1
  rw [n] at e2
  cases e2
theorem Sim.notchi (h : Sim K w s H) {p : Addr} (n : H p = none) : p ∉ w.χ := by
  intro q
  obtain ⟨_, o, e⟩ := h.chi p q
  rw [n] at e
  cases e
/-- a new object that is not of the store -/
theorem Step.new (h : Sim K w s H) {p : Addr} {o : HO} (n : H p = none) : Step w H w (upd H p o) where
  pre := fun _ _ q => q
  chiS := fun _ q => q
  chi := fun _ q m => absurd q m
  keep := fun a x e _ => by rw [upd_ne (ne_of_none e n)]; exact e
  there := fun a x e => ⟨x, by rw [upd_ne (ne_of_none e n)]; exact e⟩
  fresh := fun a q m => absurd q m
theorem Sim.new (h : Sim K w s H) {p : Addr} {o : HO} (n : H p = none) : Sim K w s (upd H p o) where
  len := h.len
  nd := h.nd
  cell := fun i ds e => by
    obtain ⟨a, vs, e1, e2, e3⟩ := h.cell i ds e
    exact ⟨a, vs, e1, by rw [upd_ne (ne_of_none e2 n)]; exact e2, e3.step (Step.new h n)⟩
  chi := fun a q => by
    obtain ⟨e1, x, e2⟩ := h.chi a q
    exact ⟨e1, x, by rw [upd_ne (ne_of_none e2 n)]; exact e2⟩
/-- a new list of the store -/
theorem Step.cell (h : Sim K w s H) {p : Addr} {o : HO} (n : H p = none) : Step w H ⟨w.ρ ++ [p], w.χ⟩ (upd H p o) where
  pre := fun i a q => by
    show (w.ρ ++ [p])[i]? = some a
    rw [List.getElem?_append_left (List.getElem?_eq_some_iff.mp q).1]
    exact q
  chiS := fun _ q => q
  chi := fun _ q m => absurd q m
  keep := fun a x e _ => by rw [upd_ne (ne_of_none e n)]; exact e
  there := fun a x e => ⟨x, by rw [upd_ne (ne_of_none e n)]; exact e⟩
  fresh := fun a q m => by
    have q' : a ∈ w.ρ ++ [p] := q
    rcases List.mem_append.mp q' with z | z
    · exact absurd z m
    · rw [List.mem_singleton.mp z]; exact n
theorem Sim.cellNew (h : Sim K w s H) {p : Addr} {ds : List D} {vs : List V} (n : H p = none) (r : Rs K w H ds vs) : Sim K ⟨w.ρ ++ [p], w.χ⟩ (s ++ [ds]) (upd H p (.lst vs)) where
  len := by simp [h.len]
  nd := by
    show (w.ρ ++ [p]).Nodup
    rw [List.nodup_append]
    refine ⟨h.nd, by simp, ?_⟩
    intro a ha b hb e
    rw [List.mem_singleton.mp hb] at e
    subst e
    exact h.notin n ha
  cell := fun i es e => by
    have st := Step.cell (o := .lst vs) h n
    by_cases hi : i < s.length
    · rw [List.getElem?_append_left hi] at e
      obtain ⟨a, us, e1, e2, e3⟩ := h.cell i es e
      exact ⟨a, us, st.pre i a e1, by rw [upd_ne (ne_of_none e2 n)]; exact e2, e3.step st⟩
    · have hl : i = s.length := by
        have := (List.getElem?_eq_some_iff.mp e).1
        simp at this
        omega
      subst hl
      have e' : es = ds := by
        rw [List.getElem?_append_right (Nat.le_refl _)] at e
        simpa using e.symm
      subst e'
      refine ⟨p, vs, ?_, upd_same, r.step st⟩
      show (w.ρ ++ [p])[s.length]? = some p
      rw [← h.len, List.getElem?_append_right (Nat.le_refl _)]
      simp
  chi := fun a q => by
    obtain ⟨e1, x, e2⟩ := h.chi a q
    refine ⟨fun z => ?_, x, by rw [upd_ne (ne_of_none e2 n)]; exact e2⟩
    have z' : a ∈ w.ρ ++ [p] := z
    rcases List.mem_append.mp z' with y | y
    · exact e1 y
    · rw [List.mem_singleton.mp y] at e2
      rw [n] at e2
      cases e2
/-- a list of the store is changed -/
theorem Step.write {i : Nat} {p : Addr} {o : HO} (hp : w.ρ[i]? = some p) : Step w H w (upd H p o) where
  pre := fun _ _ q => q
  chiS := fun _ q => q
  chi := fun _ q m => absurd q m
  there := fun a x e => by
    by_cases h : a = p
    · rw [h]; exact ⟨o, upd_same⟩
    · exact ⟨x, by rw [upd_ne h]; exact e⟩
  keep := fun a x e m => by
    rw [upd_ne (fun q => m (by rw [q]; exact mem_of_get hp))]
    exact e
  fresh := fun a q m => absurd q m
theorem nodup_get {l : List Addr} (h : l.Nodup) {i j : Nat} {a : Addr} (hi : l[i]? = some a) (hj : l[j]? = some a) : i = j := by
  exact (List.getElem?_inj (List.getElem?_eq_some_iff.mp hi).1 h).mp (hi.trans hj.symm)
theorem Sim.write (h : Sim K w s H) {i : Nat} {p : Addr} {ds : List D} {vs : List V} (hp : w.ρ[i]? = some p) (r : Rs K w H ds vs) : Sim K w (s.set i ds) (upd H p (.lst vs)) where
  len := by simp [h.len]
  nd := h.nd
  cell := fun j es e => by
    have st := Step.write (H := H) (o := .lst vs) hp
    by_cases hij : i = j
    · subst hij
      have hl : i < s.length := by rw [← h.len]; exact (List.getElem?_eq_some_iff.mp hp).1
      rw [List.getElem?_set_self hl] at e
      cases e
      exact ⟨p, vs, hp, upd_same, r.step st⟩
    · rw [List.getElem?_set_ne hij] at e
      obtain ⟨a, us, e1, e2, e3⟩ := h.cell j es e
      have ne : a ≠ p := fun q => hij (nodup_get h.nd hp (by rw [← q]; exact e1))
      exact ⟨a, us, e1, by rw [upd_ne ne]; exact e2, e3.step st⟩
  chi := fun a q => by
    obtain ⟨e1, x, e2⟩ := h.chi a q
    refine ⟨e1, x, ?_⟩
    rw [upd_ne (fun z => e1 (by rw [z]; exact mem_of_get hp))]
    exact e2
end

/-! ### slots -/
abbrev En := List (Option D)
structure ER (K : PySem.W.Frag) (w : Wd) (H : Hp) (e : En) (σ : St) : Prop where
  len : e.length = σ.length
  get : ∀ (i : Nat) (d : D), e[i]? = some (some d) → ∃ v, σ[i]? = some (some v) ∧ R K w H d v
section
variable {K : PySem.W.Frag} {w w' : Wd} {H H' : Hp} {e : En} {σ : St}
theorem ER.pstep (h : ER K w H e σ) (st : PStep w H w' H') : ER K w' H' e σ :=
  ⟨h.len, fun i d q => by obtain ⟨v, e1, e2⟩ := h.get i d q; exact ⟨v, e1, e2.pstep st⟩⟩
theorem ER.step (h : ER K w H e σ) (st : Step w H w' H') : ER K w' H' e σ := h.pstep st.p
theorem ER.set (h : ER K w H e σ) {i : Nat} {d : D} {v : V} (r : R K w H d v) : ER K w H (e.set i (some d)) (σ.set i (some v)) := by
  refine ⟨by simp [h.len], fun j x q => ?_⟩
  by_cases hij : i = j
  · subst hij
    have hl : i < e.length := by
      have := (List.getElem?_eq_some_iff.mp q).1
      simpa using this
    rw [List.getElem?_set_self hl] at q
    cases q
    exact ⟨v, by rw [List.getElem?_set_self (by rw [← h.len]; exact hl)], r⟩
  · rw [List.getElem?_set_ne hij] at q
    obtain ⟨u, e1, e2⟩ := h.get j x q
    exact ⟨u, by rw [List.getElem?_set_ne hij]; exact e1, e2⟩
theorem ER.unset (h : ER K w H e σ) {i : Nat} : ER K w H (e.set i none) (σ.set i none) := by
  refine ⟨by simp [h.len], fun j x q => ?_⟩
  by_cases hij : i = j
  · subst hij
    have hl : i < e.length := by
      have := (List.getElem?_eq_some_iff.mp q).1
      simpa using this
    rw [List.getElem?_set_self hl] at q
    cases q
  · rw [List.getElem?_set_ne hij] at q
    obtain ⟨u, e1, e2⟩ := h.get j x q
    exact ⟨u, by rw [List.getElem?_set_ne hij]; exact e1, e2⟩
def wipeE (e : En) : List Nat → En
  | [] => e
  | v :: vs => (wipeE e vs).set v none
theorem ER.wipe (h : ER K w H e σ) (vs : List Nat) : ER K w H (wipeE e vs) (L2.wipe σ vs) := by
  induction vs with
  | nil => exact h
  | cons v vs ih => exact ih.unset
end

/-! ### canonical readings -/
structure ExR (K : PySem.W.Frag) (G : Str → Option Value) (w : Wd) (H : Hp) (x : Exn) (cls : Value) (d : Option Addr) : Prop where
  cls : ∃ C, G x.cls = some (.ref C) ∧ cls = .ref C
  fld : ∃ dd fs, d = some dd ∧ H dd = some (.xd fs) ∧ ∀ f z, x.fs.lookup f = some z → ∃ v, fs.lookup f = some v ∧ R K w H z v

section
variable (K : PySem.W.Frag) (G : Str → Option Value)
/-- what a result leaves to be wished: T tells what stands for what -/
def wr {α β : Type} (T : Wd → Hp → α → β → Prop) (w : Wd) (H : Hp) (r : Res α) (Q : β → Hp → Prop) (W : Value → Option Addr → Hp → Prop) : Prop := match r with
  | .ok a s' => ∀ w' b H', Step w H w' H' → Sim K w' s' H' → T w' H' a b → Q b H'
  | .exc x s' => ∀ w' H' cls d, Step w H w' H' → Sim K w' s' H' → ExR K G w' H' x cls d → W cls d H'
  | .bad => False
abbrev TR : Wd → Hp → D → V → Prop := fun w H d v => R K w H d v
abbrev TRs : Wd → Hp → List D → List V → Prop := fun w H d v => Rs K w H d v
abbrev TB : Wd → Hp → Bool → Bool → Prop := fun _ _ a b => a = b
abbrev TOI : Wd → Hp → Option Int → Option Int → Prop := fun _ _ a b => a = b
def tG {α β : Type} (T : Wd → Hp → α → β → Prop) (W : WX) (f : En → S → Res α) : St → Hp → (β → Hp → Prop) → Prop := fun σ H Q =>
  ∃ w e s, ER K w H e σ ∧ Sim K w s H ∧ wr K G T w H (f e s) Q (fun c d H' => W c d σ H')
abbrev tE (W : WX) (f : En → S → Res D) : TE := tG K G (TR K) W f
abbrev tA (W : WX) (f : En → S → Res (List D)) : TA := tG K G (TRs K) W f
abbrev tT (W : WX) (f : En → S → Res Bool) : TT := tG K G TB W f
abbrev tO (W : WX) (f : En → S → Res (Option Int)) : TO := tG K G TOI W f
end
section
variable {K : PySem.W.Frag} {G : Str → Option Value} {α β γ δ : Type} {T : Wd → Hp → α → β → Prop} {U : Wd → Hp → γ → δ → Prop} {w w1 : Wd} {H H1 : Hp} {s : S}
theorem wr.mono {r : Res α} {Q Q' : β → Hp → Prop} {W : Value → Option Addr → Hp → Prop} (h : wr K G T w H r Q W) (hq : ∀ b H', Q b H' → Q' b H') : wr K G T w H r Q' W := by
  cases r with
  | ok a s' => exact fun w' b H' st sm t => hq b H' (h w' b H' st sm t)
  | exc x s' => exact h
  | bad => exact h
theorem wr.step {r : Res α} {Q : β → Hp → Prop} {W : Value → Option Addr → Hp → Prop} (h : wr K G T w H r Q W) (st : Step w H w1 H1) : wr K G T w1 H1 r Q W := by
  cases r with
  | ok a s' => exact fun w' b H' st' sm t => h w' b H' (st.trans st') sm t
  | exc x s' => exact fun w' H' c d st' sm t => h w' H' c d (st.trans st') sm t
  | bad => exact h
/-- a result and what follows it -/
theorem wr_bind {r : Res α} {k : α → S → Res γ} {Q : δ → Hp → Prop} {W : Value → Option Addr → Hp → Prop} (h : wr K G U w H (r.bind k) Q W) :
    wr K G T w H r (fun b H1 => ∃ w1 a s1, Step w H w1 H1 ∧ Sim K w1 s1 H1 ∧ T w1 H1 a b ∧ wr K G U w1 H1 (k a s1) Q W) W := by
  cases r with
  | ok a s' => exact fun w' b H' st sm t => ⟨w', a, s', st, sm, t, wr.step h st⟩
  | exc x s' => exact h
  | bad => exact h
theorem wr_ok {a : α} {b : β} {Q : β → Hp → Prop} {W : Value → Option Addr → Hp → Prop} (h : wr K G T w H (.ok a s) Q W) (sm : Sim K w s H) (t : T w H a b) : Q b H := h w b H Step.refl sm t
end
section
variable {X : Cx}
theorem PE.imp {e : Expr} {t t' : TE} (h : PE X e t) (hi : ∀ σ H Q, t' σ H Q → t σ H Q) : PE X e t' := ⟨fun pins s σ H Q I q => h.run pins s σ H Q I (hi σ H Q q)⟩
theorem PT.imp {e : Expr} {t t' : TT} (h : PT X e t) (hi : ∀ σ H Q, t' σ H Q → t σ H Q) : PT X e t' := ⟨fun pins s σ H Q I q => h.run pins s σ H Q I (hi σ H Q q)⟩
theorem PW.imp {e : Expr} {t t' : TT} (h : PW X e t) (hi : ∀ σ H Q, t' σ H Q → t σ H Q) : PW X e t' := ⟨fun wh pins s σ H Q I q => h.run wh pins s σ H Q I (hi σ H Q q)⟩
theorem PA.imp {es : List Expr} {t t' : TA} (h : PA X es t) (hi : ∀ σ H Q, t' σ H Q → t σ H Q) : PA X es t' := ⟨fun pos pins s σ H Q I q => h.run pos pins s σ H Q I (hi σ H Q q)⟩
theorem PO.imp {e : Option Expr} {t t' : TO} (h : PO X e t) (hi : ∀ σ H Q, t' σ H Q → t σ H Q) : PO X e t' := ⟨fun pins s σ H Q I q => h.run pins s σ H Q I (hi σ H Q q)⟩
theorem PS.imp {e : Stmt} {t t' : TS} (h : PS X e t) (hi : ∀ D σ H, t' D σ H → t D σ H) : PS X e t' := ⟨fun pins s σ H D I q => h.run pins s σ H D I (hi D σ H q)⟩
theorem PSs.imp {e : List Stmt} {t t' : TS} (h : PSs X e t) (hi : ∀ D σ H, t' D σ H → t D σ H) : PSs X e t' := ⟨fun pins s σ H D I q => h.run pins s σ H D I (hi D σ H q)⟩
theorem PG.imp {e : Expr} {t t' : TG} (h : PG X e t) (hi : ∀ v σ H Q, t' v σ H Q → t v σ H Q) : PG X e t' := ⟨fun pins s σ H v u Q I r q => h.run pins s σ H v u Q I r (hi v σ H Q q)⟩
theorem PI.imp {tg e : Expr} {t t' : TI} (h : PI X tg e t) (hi : ∀ σ H Q, t' σ H Q → t σ H Q) : PI X tg e t' := ⟨fun pins s σ H Q I q => h.run pins s σ H Q I (hi σ H Q q)⟩
end
end Cf

set_option Elab.async false
set_option linter.all false
set_option maxRecDepth 100000
set_option maxHeartbeats 4000000
/-! Cf, part B: expressions. -/
namespace Cf
open PySem PySem.Spec L2
open PyProof.Rows hiding St

/-! ### primitives over data -/
def mkL (c : Bool) (ds : List D) (s : S) : Res D := if c then .ok (.ref s.length) (s ++ [ds]) else .ok (.lst ds) s
@[simp] theorem mkL_true (ds : List D) (s : S) : mkL true ds s = .ok (.ref s.length) (s ++ [ds]) := rfl
@[simp] theorem mkL_false (ds : List D) (s : S) : mkL false ds s = .ok (.lst ds) s := rfl
/-- the items of a list that may be read -/
def lsq (d : D) (s : S) : Option (List D) := match d with
  | .lst xs => some xs
  | .fz xs => some xs
  | .ref n => s[n]?
  | _ => none
/-- the items of a list or tuple -/
def sqOf (d : D) (s : S) : Option (List D) := match d with
  | .tup xs => some xs
  | _ => lsq d s
def truthD (d : D) (s : S) : Option Bool := match d with
  | .non => some false
  | .bl b => some b
  | .int i => some (i != 0)
  | .str x => if x.length ≤ sizeLine then some ((x.length : Int) != 0) else none
  | d => (sqOf d s).map fun xs => !xs.isEmpty
def flatD : D → Bool
  | .non => true
  | .bl _ => true
  | .int _ => true
  | .str _ => true
  | _ => false
def eqF : D → D → Bool
  | .non, .non => true
  | .bl a, .bl b => a == b
  | .bl a, .int b => (if a then 1 else 0) == b
  | .int a, .bl b => a == (if b then 1 else 0)
  | .int a, .int b => a == b
  | .str a, .str b => a == b
  | _, _ => false
mutual
/-- data as the library's trees; lists of the store are read to some depth -/
def toP (s : S) : Nat → D → Option PyData
  | 0, _ => none
  | n + 1, .non => some .none
  | n + 1, .bl b => some (.bool b)
  | n + 1, .int i => some (.int i)
  | n + 1, .str x => some (.str x)
  | n + 1, .tup xs => (toPs s n xs).map .tuple
  | n + 1, .lst xs => (toPs s n xs).map .list
  | n + 1, .fz xs => (toPs s n xs).map .list
  | n + 1, .ref k => match s[k]? with
    | some xs => (toPs s n xs).map .list
    | none => none
def toPs (s : S) : Nat → List D → Option (List PyData)
  | n, [] => some []
  | 0, _ :: _ => none
  | n + 1, x :: xs => match toP s (n + 1) x, toPs s (n + 1) xs with
    | some d, some ds => some (d :: ds)
    | _, _ => none
end

section
variable {K : PySem.W.Frag} {w : Wd} {H : Hp} {s : S}
theorem R.sq {d : D} {v : V} {xs : List D} (h : R K w H d v) (sm : Sim K w s H) (e : lsq d s = some xs) : ∃ a vs, v = .ref a ∧ SqL K H a vs ∧ Rs K w H xs vs := by
  cases h with
  | lst q rs => cases e; exact ⟨_, _, rfl, .of q.2.2, rs⟩
  | fz q rs => cases e; exact ⟨_, _, rfl, q.sq, rs⟩
  | ref q =>
    obtain ⟨a, vs, e1, e2, e3⟩ := sm.cell _ _ e
    rw [q] at e1
    cases e1
    exact ⟨_, _, rfl, .of e2, e3⟩
  | _ => cases e
theorem R.tq {v : V} {xs : List D} (h : R K w H (.tup xs) v) : ∃ a vs, v = .ref a ∧ H a = some (.tup vs) ∧ Rs K w H xs vs := by
  cases h with
  | tup n q rs => exact ⟨_, _, rfl, q, rs⟩
theorem R.sqa {d : D} {v : V} {xs : List D} (h : R K w H d v) (sm : Sim K w s H) (e : sqOf d s = some xs) : ∃ a vs, v = .ref a ∧ (SqL K H a vs ∨ SqT K H a vs) ∧ Rs K w H xs vs := by
  cases h with
  | tup n q rs => cases e; exact ⟨_, _, rfl, .inr (.of q), rs⟩
  | lst q rs => cases e; exact ⟨_, _, rfl, .inl (.of q.2.2), rs⟩
  | fz q rs => cases e; exact ⟨_, _, rfl, .inl q.sq, rs⟩
  | ref q =>
    obtain ⟨a, vs, e1, e2, e3⟩ := R.sq (.ref q) sm e
    exact ⟨a, vs, e1, .inl e2, e3⟩
  | _ => cases e
/-- the items of a list that is no locked one -/
def lsw (d : D) (s : S) : Option (List D) := match d with
  | .lst xs => some xs
  | .ref n => s[n]?
  | _ => none
theorem R.sw {d : D} {v : V} {xs : List D} (h : R K w H d v) (sm : Sim K w s H) (e : lsw d s = some xs) : ∃ a vs, v = .ref a ∧ H a = some (.lst vs) ∧ Rs K w H xs vs := by
  cases h with
  | lst q rs => cases e; exact ⟨_, _, rfl, q.2.2, rs⟩
  | ref q =>
    obtain ⟨a, vs, e1, e2, e3⟩ := sm.cell _ _ e
    rw [q] at e1
    cases e1
    exact ⟨_, _, rfl, e2, e3⟩
  | _ => cases e
theorem Rs.isEmpty {ds : List D} {vs : List V} (h : Rs K w H ds vs) : ds.isEmpty = vs.isEmpty := by cases h <;> rfl
theorem truth_ok {d : D} {v : V} {b : Bool} (h : R K w H d v) (sm : Sim K w s H) (e : truthD d s = some b) : TruV K v H b := by
  cases h with
  | non => cases e; rfl
  | bl x => cases e; rfl
  | int i => cases e; rfl
  | str x =>
    simp only [truthD] at e
    split at e
    · cases e; exact ⟨by assumption, rfl⟩
    · cases e
  | tup n q rs => cases e; exact .inr (.inl ⟨_, .of q, congrArg Bool.not rs.isEmpty⟩)
  | lst q rs => cases e; exact .inl ⟨_, .of q.2.2, congrArg Bool.not rs.isEmpty⟩
  | fz q rs => cases e; exact .inl ⟨_, q.sq, congrArg Bool.not rs.isEmpty⟩
  | @ref a n q =>
    have e' : (s[n]?).map (fun xs : List D => !xs.isEmpty) = some b := e
    cases c : s[n]? with
    | none => rw [c] at e'; cases e'
    | some xs =>
      rw [c] at e'
      cases e'
      obtain ⟨a', vs, e1, e2, e3⟩ := sm.cell _ _ c
      rw [q] at e1
      cases e1
      exact .inl ⟨_, .of e2, congrArg Bool.not e3.isEmpty⟩
theorem flat_ok {d : D} {v : V} (h : R K w H d v) (e : flatD d = true) : flatV v = true := by
  cases h <;> first | rfl | cases e
theorem eqF_ok {d x : D} {v u : V} (h : R K w H d v) (g : R K w H x u) (e : flatD d = true) (f : flatD x = true) : eqV v u = eqF d x := by
  cases h <;> cases g <;> first | rfl | cases e | cases f
theorem flats_ok {ds : List D} {vs : List V} (h : Rs K w H ds vs) (e : ds.all flatD = true) : vs.all flatV = true := by
  induction ds generalizing vs with
  | nil => cases h; rfl
  | cons d ds ih =>
    cases h with
    | cons r rs =>
      simp only [List.all_cons, Bool.and_eq_true] at e ⊢
      exact ⟨flat_ok r e.1, ih rs e.2⟩
theorem inF_ok {ds : List D} {vs : List V} {x : D} {u : V} (h : Rs K w H ds vs) (g : R K w H x u) (e : ds.all flatD = true) (f : flatD x = true) : inV u vs = ds.any fun y => eqF y x := by
  unfold inV
  induction ds generalizing vs with
  | nil => cases h; rfl
  | cons d ds ih =>
    cases h with
    | cons r rs =>
      simp only [List.all_cons, Bool.and_eq_true] at e
      simp only [List.any_cons]
      rw [ih rs e.2, eqF_ok r g e.1 f]
mutual
theorem toP_ok (sm : Sim K w s H) : ∀ (n : Nat) (d : D) (v : V) (p : PyData), R K w H d v → toP s n d = some p → Dp K H v p
  | 0, d, v, p, r, e => by simp only [toP] at e; cases e
  | n + 1, .non, v, p, r, e => by cases r; simp only [toP] at e; cases e; exact .non
  | n + 1, .bl b, v, p, r, e => by cases r; simp only [toP] at e; cases e; exact .bl b
  | n + 1, .int i, v, p, r, e => by cases r; simp only [toP] at e; cases e; exact .int i
  | n + 1, .str x, v, p, r, e => by cases r; simp only [toP] at e; cases e; exact .str x
  | n + 1, .tup xs, v, p, r, e => by
    cases r with
    | tup m q rs =>
      simp only [toP] at e
      cases c : toPs s n xs with
      | none => rw [c] at e; cases e
      | some ps => rw [c] at e; cases e; exact .tup (.of q) (toPs_ok sm n xs _ ps rs c)
  | n + 1, .lst xs, v, p, r, e => by
    cases r with
    | lst q rs =>
      simp only [toP] at e
      cases c : toPs s n xs with
      | none => rw [c] at e; cases e
      | some ps => rw [c] at e; cases e; exact .lst (.of q.2.2) (toPs_ok sm n xs _ ps rs c)
  | n + 1, .fz xs, v, p, r, e => by
    cases r with
    | fz q rs =>
      simp only [toP] at e
      cases c : toPs s n xs with
      | none => rw [c] at e; cases e
      | some ps => rw [c] at e; cases e; exact .lst q.sq (toPs_ok sm n xs _ ps rs c)
  | n + 1, .ref k, v, p, r, e => by
    cases r with
    | ref q =>
      simp only [toP] at e
      cases z : s[k]? with
      | none => rw [z] at e; cases e
      | some xs =>
        rw [z] at e
        obtain ⟨a', vs, e1, e2, e3⟩ := sm.cell _ _ z
        rw [q] at e1
        cases e1
        cases c : toPs s n xs with
        | none => simp only [c] at e; cases e
        | some ps => simp only [c] at e; cases e; exact .lst (.of e2) (toPs_ok sm n xs _ ps e3 c)
theorem toPs_ok (sm : Sim K w s H) : ∀ (n : Nat) (ds : List D) (vs : List V) (ps : List PyData), Rs K w H ds vs → toPs s n ds = some ps → DpAll K H vs ps
  | n, [], vs, ps, r, e => by cases r; simp only [toPs] at e; cases e; exact .nil
  | 0, x :: xs, vs, ps, r, e => by simp only [toPs] at e; cases e
  | n + 1, x :: xs, vs, ps, r, e => by
    cases r with
    | cons r rs =>
      simp only [toPs] at e
      cases c : toP s (n + 1) x with
      | none => rw [c] at e; cases e
      | some d =>
        cases c2 : toPs s (n + 1) xs with
        | none => rw [c, c2] at e; cases e
        | some ds =>
          rw [c, c2] at e
          cases e
          exact .cons (toP_ok sm (n + 1) x _ d r c) (toPs_ok sm (n + 1) xs _ ds rs c2)
end
end

section
variable {K : PySem.W.Frag} {G : Str → Option Value} {w : Wd} {H : Hp} {s : S} {Q : VK} {W : Value → Option Addr → Hp → Prop}
theorem wr_newTup {ds : List D} {vs : List V} (h : wr K G (TR K) w H (.ok (.tup ds) s) Q W) (sm : Sim K w s H) (r : Rs K w H ds vs) : ∀ p, H p = none → Q (.ref p) (upd H p (.tup vs)) := fun p np =>
  h w (.ref p) _ (Step.new sm np) (sm.new np) (.tup ⟨sm.notin np, sm.notchi np⟩ upd_same (r.step (Step.new sm np)))
theorem wr_newLst {c : Bool} {ds : List D} {vs : List V} (h : wr K G (TR K) w H (mkL c ds s) Q W) (sm : Sim K w s H) (r : Rs K w H ds vs) : ∀ p, H p = none → Q (.ref p) (upd H p (.lst vs)) := fun p np => by
  cases c with
  | true =>
    refine h ⟨w.ρ ++ [p], w.χ⟩ (.ref p) _ (Step.cell sm np) (sm.cellNew np r) (.ref ?_)
    show (w.ρ ++ [p])[s.length]? = some p
    rw [← sm.len, List.getElem?_append_right (Nat.le_refl _)]
    simp
  | false => exact h w (.ref p) _ (Step.new sm np) (sm.new np) (.lst ⟨sm.notin np, sm.notchi np, upd_same⟩ (r.step (Step.new sm np)))
end

/-! ### mirrors of expressions -/
abbrev Ev := En → S → Res D
abbrev Eb := En → S → Res Bool
abbrev Ea := En → S → Res (List D)
def eV (i : Nat) : Ev := fun e s => match e[i]? with
  | some (some d) => .ok d s
  | _ => .bad
def eC (d : D) : Ev := fun _ s => .ok d s
def e1 (p : D → S → Res D) (f : Ev) : Ev := fun e s => (f e s).bind p
def e2 (p : D → D → S → Res D) (f g : Ev) : Ev := fun e s => (f e s).bind fun a s => (g e s).bind fun b s => p a b s
def eN : Ea := fun _ s => .ok [] s
def eK (f : Ev) (g : Ea) : Ea := fun e s => (f e s).bind fun d s => (g e s).bind fun ds s => .ok (d :: ds) s
def eA (p : List D → S → Res D) (f : Ea) : Ev := fun e s => (f e s).bind p
def eT (f : Ea) : Ev := eA (fun ds s => .ok (.tup ds) s) f
def eL (c : Bool) (f : Ea) : Ev := eA (mkL c) f
def bT (f : Ev) : Eb := fun e s => (f e s).bind fun d s => match truthD d s with
  | some b => .ok b s
  | none => .bad
def bAnd (f g : Eb) : Eb := fun e s => (f e s).bind fun b s => if b then g e s else .ok false s
def bOr (f g : Eb) : Eb := fun e s => (f e s).bind fun b s => if b then .ok true s else g e s
def bNot (f : Eb) : Eb := fun e s => (f e s).bind fun b s => .ok (!b) s
def eAnd (f g : Ev) : Ev := fun e s => (f e s).bind fun d s => match truthD d s with
  | some b => if b then g e s else .ok d s
  | none => .bad
def eOr (f g : Ev) : Ev := fun e s => (f e s).bind fun d s => match truthD d s with
  | some b => if b then .ok d s else g e s
  | none => .bad
def eNot (f : Ev) : Ev := fun e s => (f e s).bind fun d s => match truthD d s with
  | some b => .ok (.bl (!b)) s
  | none => .bad
def eIf (c : Eb) (f g : Ev) : Ev := fun e s => (c e s).bind fun b s => if b then f e s else g e s
/-- a chain of two comparisons -/
def eCh (p q : D → D → S → Res D) (f g h : Ev) : Ev := fun e s => (f e s).bind fun a s => (g e s).bind fun b s => (p a b s).bind fun z s => match z with
  | .bl true => (h e s).bind fun c s => q b c s
  | .bl false => .ok (.bl false) s
  | _ => .bad

section
variable {X : Cx} {W : WX} {a b c : Expr} {fa fb fc : Ev} {pos : Pos}
abbrev RE (X : Cx) (W : WX) (e : Expr) (f : Ev) : Prop := PE X e (tE X.K X.mg W f)
abbrev RT (X : Cx) (W : WX) (e : Expr) (f : Eb) : Prop := PT X e (tT X.K X.mg W f)
abbrev RW (X : Cx) (W : WX) (e : Expr) (f : Eb) : Prop := PW X e (tT X.K X.mg W f)
abbrev RA (X : Cx) (W : WX) (es : List Expr) (f : Ea) : Prop := PA X es (tA X.K X.mg W f)
theorem re_var {i : Nat} (h : PE X a (tVar i)) : RE X W a (eV i) := PE.imp h fun σ H Q ⟨w, e, s, er, sm, q⟩ => by
  unfold eV at q
  split at q
  · rename_i d hd
    obtain ⟨v, e1, e2⟩ := er.get i d hd
    exact ⟨v, e1, q w v H Step.refl sm e2⟩
  · exact q.elim
theorem re_C {v : V} {d : D} (h : PE X a (tC v)) (r : ∀ w H, R X.K w H d v) : RE X W a (eC d) := PE.imp h fun σ H Q ⟨w, e, s, er, sm, q⟩ => q w v H Step.refl sm (r w H)
theorem re_int {i j} : RE X W (.Constant (.int i) j pos) (eC (.int i)) := re_C pe_int fun _ _ => .int i
theorem re_bl {i j} : RE X W (.Constant (.bool i) j pos) (eC (.bl i)) := re_C pe_bl fun _ _ => .bl i
theorem re_non {j} : RE X W (.Constant .none j pos) (eC .non) := re_C pe_non fun _ _ => .non
theorem re_str {x j} : RE X W (.Constant (.str x) j pos) (eC (.str x)) := re_C pe_str fun _ _ => .str x
theorem re_gint {x : Str} {i : Int} {u : Tok} (hg : Gl X x) (hm : X.mg x = some (.int i u)) (hd : (x == ("__debug__" : Str)) = false := by decide) : RE X W (.Name x pos) (eC (.int i)) :=
  re_C (pe_glob (v := .int i) hg hm ⟨_, rfl⟩ hd) fun _ _ => .int i

/-- what a primitive of two values must keep to -/
def P2 (X : Cx) (r : R2) (p : D → D → S → Res D) : Prop := ∀ (w : Wd) (s : S) (H : Hp) (x y : D) (v u : V) (Q : VK) (W : Value → Option Addr → Hp → Prop),
  Sim X.K w s H → R X.K w H x v → R X.K w H y u → wr X.K X.mg (TR X.K) w H (p x y s) Q W → r v u H Q
def P1 (X : Cx) (r : V → Hp → VK → Prop) (p : D → S → Res D) : Prop := ∀ (w : Wd) (s : S) (H : Hp) (x : D) (v : V) (Q : VK) (W : Value → Option Addr → Hp → Prop),
  Sim X.K w s H → R X.K w H x v → wr X.K X.mg (TR X.K) w H (p x s) Q W → r v H Q
def PN (X : Cx) (r : List V → Hp → VK → Prop) (p : List D → S → Res D) : Prop := ∀ (w : Wd) (s : S) (H : Hp) (xs : List D) (vs : List V) (Q : VK) (W : Value → Option Addr → Hp → Prop),
  Sim X.K w s H → Rs X.K w H xs vs → wr X.K X.mg (TR X.K) w H (p xs s) Q W → r vs H Q
theorem imp2 {r : R2} {p : D → D → S → Res D} (hp : P2 X r p) : ∀ σ H Q, tE X.K X.mg W (e2 p fa fb) σ H Q → tOp r (tE X.K X.mg W fa) (tE X.K X.mg W fb) σ H Q := fun σ H Q ⟨w, e, s, er, sm, q⟩ =>
  ⟨w, e, s, er, sm, (wr_bind q).mono fun v H1 ⟨w1, d1, s1, st1, sm1, r1, q1⟩ => ⟨w1, e, s1, er.step st1, sm1, (wr_bind q1).mono fun u H2 ⟨w2, d2, s2, st2, sm2, r2, q2⟩ => hp w2 s2 H2 d1 d2 v u Q _ sm2 (r1.step st2) r2 q2⟩⟩
theorem re_op {op : Operator} {r : R2} {p : D → D → S → Res D} (ho : OpR X (binaryOp op) r) (hp : P2 X r p) (ha : RE X W a fa) (hb : RE X W b fb) : RE X W (.BinOp a op b pos) (e2 p fa fb) := PE.imp (pe_op ho ha hb) (imp2 hp)
theorem re_cmp {op : CmpOp} {r : R2} {p : D → D → S → Res D} (ho : OpR X (compareOp op) r) (hp : P2 X r p) (ha : RE X W a fa) (hb : RE X W b fb) (hm : behindInMarks op b = false) : RE X W (.Compare a [op] [b] pos) (e2 p fa fb) := PE.imp (pe_cmpR ho ha hb hm) (imp2 hp)
theorem re_chain {op op' : CmpOp} {r r' : R2} {p p' : D → D → S → Res D} (ho : OpR X (compareOp op) r) (hp : P2 X r p) (ho' : OpR X (compareOp op') r') (hp' : P2 X r' p') (ha : RE X W a fa) (hb : RE X W b fb) (hc : RE X W c fc)
    (hm : lastMarks [op, op'] [b, c] = false := by with_unfolding_all rfl) : RE X W (.Compare a [op, op'] [b, c] pos) (eCh p p' fa fb fc) := PE.imp (pe_chain ho ho' ha hb hc hm) fun σ H Q ⟨w, e, s, er, sm, q⟩ =>
  ⟨w, e, s, er, sm, (wr_bind q).mono fun v H1 ⟨w1, d1, s1, st1, sm1, r1, q1⟩ => ⟨w1, e, s1, er.step st1, sm1, (wr_bind q1).mono fun u H2 ⟨w2, d2, s2, st2, sm2, r2, q2⟩ =>
    hp w2 s2 H2 d1 d2 v u _ (fun c d H' => W c d σ H') sm2 (r1.step st2) r2 ((wr_bind (T := TR X.K) q2).mono fun z H3 ⟨w3, d3, s3, st3, sm3, r3, q3⟩ => by
      cases d3 with
      | bl k =>
        cases r3
        refine ⟨k, rfl, ?_⟩
        cases k with
        | true =>
          refine ⟨w3, e, s3, ((er.step st1).step st2).step st3, sm3, (wr_bind (T := TR X.K) q3).mono fun y H4 ⟨w4, d4, s4, st4, sm4, r4, q4⟩ => ?_⟩
          exact hp' w4 s4 H4 d2 d4 u y Q _ sm4 ((r2.step st3).step st4) r4 q4
        | false => exact q3 w3 (.bl false) H3 Step.refl sm3 (.bl false)
      | _ => exact q3.elim)⟩⟩
theorem re_un {op : UnaryOp} {r : V → Hp → VK → Prop} {p : D → S → Res D} (ho : UnR X (unaryOp op) r) (hp : P1 X r p) (ha : RE X W a fa) : RE X W (.UnaryOp op a pos) (e1 p fa) := PE.imp (pe_un ho ha) fun σ H Q ⟨w, e, s, er, sm, q⟩ =>
  ⟨w, e, s, er, sm, (wr_bind q).mono fun v H1 ⟨w1, d1, s1, st1, sm1, r1, q1⟩ => hp w1 s1 H1 d1 v Q _ sm1 r1 q1⟩

/-! tests -/
theorem rt_val (ha : RE X W a fa) (he : ∀ whole, isTrue a X.env whole = (do let v ← whole; standAt a.pos; holding [v] (truthy v)) := by intro _; rfl) : RT X W a (bT fa) := PT.imp (pt_truth ha he) fun σ H Q ⟨w, e, s, er, sm, q⟩ =>
  ⟨w, e, s, er, sm, (wr_bind q).mono fun v H1 ⟨w1, d1, s1, st1, sm1, r1, q1⟩ => by
    cases c : truthD d1 s1 with
    | none => simp only [c] at q1; exact q1.elim
    | some k => simp only [c] at q1; exact ⟨k, truth_ok r1 sm1 c, q1 w1 k H1 Step.refl sm1 rfl⟩⟩
theorem rw_one {op} {f : Eb} (h : RT X W a f) : RW X W (.BoolOp op [a] pos) f := by cases op; exact pw_and1 h; exact pw_or1 h
variable {ga gb gc : Eb} {rest : List Expr}
theorem rw_and (ha : RT X W a ga) (hb : RW X W (.BoolOp .And (b :: rest) pos) gb) : RW X W (.BoolOp .And (a :: b :: rest) pos) (bAnd ga gb) := PW.imp (pw_and ha hb) fun σ H Q ⟨w, e, s, er, sm, q⟩ =>
  ⟨w, e, s, er, sm, (wr_bind q).mono fun v H1 ⟨w1, d1, s1, st1, sm1, r1, q1⟩ => by
    cases r1
    cases v with
    | true => rw [if_pos rfl]; exact ⟨w1, e, s1, er.step st1, sm1, q1⟩
    | false => rw [if_neg Bool.false_ne_true]; exact q1 w1 false H1 Step.refl sm1 rfl⟩
theorem rw_or (ha : RT X W a ga) (hb : RW X W (.BoolOp .Or (b :: rest) pos) gb) : RW X W (.BoolOp .Or (a :: b :: rest) pos) (bOr ga gb) := PW.imp (pw_or ha hb) fun σ H Q ⟨w, e, s, er, sm, q⟩ =>
  ⟨w, e, s, er, sm, (wr_bind q).mono fun v H1 ⟨w1, d1, s1, st1, sm1, r1, q1⟩ => by
    cases r1
    cases v with
    | true => rw [if_pos rfl]; exact q1 w1 true H1 Step.refl sm1 rfl
    | false => rw [if_neg Bool.false_ne_true]; exact ⟨w1, e, s1, er.step st1, sm1, q1⟩⟩
theorem rt_not (ha : RT X W a ga) : RT X W (.UnaryOp .Not a pos) (bNot ga) := PT.imp (pt_not ha) fun σ H Q ⟨w, e, s, er, sm, q⟩ =>
  ⟨w, e, s, er, sm, (wr_bind q).mono fun v H1 ⟨w1, d1, s1, st1, sm1, r1, q1⟩ => by cases r1; exact q1 w1 (!v) H1 Step.refl sm1 rfl⟩

/-! and, or, not, if as values -/
theorem re_one {op} (h : RE X W a fa) : RE X W (.BoolOp op [a] pos) fa := pe_one h
theorem re_and (ha : RE X W a fa) (hb : RE X W (.BoolOp .And (b :: rest) pos) fb) : RE X W (.BoolOp .And (a :: b :: rest) pos) (eAnd fa fb) := PE.imp (pe_andT ha hb) fun σ H Q ⟨w, e, s, er, sm, q⟩ =>
  ⟨w, e, s, er, sm, (wr_bind q).mono fun v H1 ⟨w1, d1, s1, st1, sm1, r1, q1⟩ => by
    cases c : truthD d1 s1 with
    | none => simp only [c] at q1; exact q1.elim
    | some k =>
      simp only [c] at q1
      refine ⟨k, truth_ok r1 sm1 c, ?_⟩
      cases k with
      | true => rw [if_pos rfl]; exact ⟨w1, e, s1, er.step st1, sm1, q1⟩
      | false => rw [if_neg Bool.false_ne_true]; exact q1 w1 v H1 Step.refl sm1 r1⟩
theorem re_or (ha : RE X W a fa) (hb : RE X W (.BoolOp .Or (b :: rest) pos) fb) : RE X W (.BoolOp .Or (a :: b :: rest) pos) (eOr fa fb) := PE.imp (pe_orT ha hb) fun σ H Q ⟨w, e, s, er, sm, q⟩ =>
  ⟨w, e, s, er, sm, (wr_bind q).mono fun v H1 ⟨w1, d1, s1, st1, sm1, r1, q1⟩ => by
    cases c : truthD d1 s1 with
    | none => simp only [c] at q1; exact q1.elim
    | some k =>
      simp only [c] at q1
      refine ⟨k, truth_ok r1 sm1 c, ?_⟩
      cases k with
      | true => rw [if_pos rfl]; exact q1 w1 v H1 Step.refl sm1 r1
      | false => rw [if_neg Bool.false_ne_true]; exact ⟨w1, e, s1, er.step st1, sm1, q1⟩⟩
theorem re_not (ha : RE X W a fa) : RE X W (.UnaryOp .Not a pos) (eNot fa) := PE.imp (pe_notT ha) fun σ H Q ⟨w, e, s, er, sm, q⟩ =>
  ⟨w, e, s, er, sm, (wr_bind q).mono fun v H1 ⟨w1, d1, s1, st1, sm1, r1, q1⟩ => by
    cases c : truthD d1 s1 with
    | none => simp only [c] at q1; exact q1.elim
    | some k => simp only [c] at q1; exact ⟨k, truth_ok r1 sm1 c, q1 w1 (.bl (!k)) H1 Step.refl sm1 (.bl _)⟩⟩
theorem re_if (hc : RT X W c gc) (ha : RE X W a fa) (hb : RE X W b fb) : RE X W (.IfExp c a b pos) (eIf gc fa fb) := PE.imp (pe_ifExp hc ha hb) fun σ H Q ⟨w, e, s, er, sm, q⟩ =>
  ⟨w, e, s, er, sm, (wr_bind q).mono fun v H1 ⟨w1, d1, s1, st1, sm1, r1, q1⟩ => by
    cases r1
    cases v with
    | true => rw [if_pos rfl]; exact ⟨w1, e, s1, er.step st1, sm1, q1⟩
    | false => rw [if_neg Bool.false_ne_true]; exact ⟨w1, e, s1, er.step st1, sm1, q1⟩⟩

/-! arguments, displays, calls -/
variable {es : List Expr} {fs : Ea}
theorem ra_nil : RA X W [] eN := PA.imp pa_nil fun σ H Q ⟨w, e, s, er, sm, q⟩ => q w [] H Step.refl sm .nil
theorem ra_cons (ha : RE X W a fa) (hr : RA X W es fs) (hs : starEach (a :: es) X.env = (false, eval a X.env) :: starEach es X.env := by rfl) : RA X W (a :: es) (eK fa fs) := PA.imp (pa_cons ha hr hs) fun σ H Q ⟨w, e, s, er, sm, q⟩ =>
  ⟨w, e, s, er, sm, (wr_bind q).mono fun v H1 ⟨w1, d1, s1, st1, sm1, r1, q1⟩ => ⟨w1, e, s1, er.step st1, sm1, (wr_bind q1).mono fun u H2 ⟨w2, d2, s2, st2, sm2, r2, q2⟩ => q2 w2 (v :: u) H2 Step.refl sm2 (.cons (r1.step st2) r2)⟩⟩
theorem re_tup {x1} (h : RA X W es fs) (hl : ∀ e s ds s', fs e s = .ok ds s' → ds.length ≤ 1000) : RE X W (.Tuple es x1 pos) (eT fs) := PE.imp (pe_tup h) fun σ H Q ⟨w, e, s, er, sm, q⟩ => by
  refine ⟨w, e, s, er, sm, ?_⟩
  cases c : fs e s with
  | ok ds s1 =>
    have q' := q
    unfold eT eA at q'
    rw [c] at q'
    intro w1 vs H1 st sm1 r1
    have hl' := hl _ _ _ _ c
    refine ⟨Nat.le_of_lt (small1000 (by rw [← r1.length]; exact hl')), fun p np => ?_⟩
    exact wr_newTup (wr.step q' st) sm1 r1 p np
  | exc x s1 =>
    have q' := q
    unfold eT eA at q'
    rw [c] at q'
    exact q'
  | bad =>
    have q' := q
    unfold eT eA at q'
    rw [c] at q'
    exact q'
theorem re_lst {k : Bool} (h : RA X W es fs) (hl : ∀ e s ds s', fs e s = .ok ds s' → ds.length ≤ 1000) : RE X W (.List es pos) (eL k fs) := PE.imp (pe_lst h) fun σ H Q ⟨w, e, s, er, sm, q⟩ => by
  refine ⟨w, e, s, er, sm, ?_⟩
  cases c : fs e s with
  | ok ds s1 =>
    have q' := q
    unfold eL eA at q'
    rw [c] at q'
    intro w1 vs H1 st sm1 r1
    have hl' := hl _ _ _ _ c
    refine ⟨Nat.le_of_lt (small1000 (by rw [← r1.length]; exact hl')), fun p np => ?_⟩
    exact wr_newLst (wr.step q' st) sm1 r1 p np
  | exc x s1 =>
    have q' := q
    unfold eL eA at q'
    rw [c] at q'
    exact q'
  | bad =>
    have q' := q
    unfold eL eA at q'
    rw [c] at q'
    exact q'
/-- so many arguments -/
def Few (n : Nat) (f : Ea) : Prop := ∀ e s ds s', f e s = .ok ds s' → ds.length = n
theorem few_nil : Few 0 eN := fun e s ds s' h => by cases h; rfl
theorem few_cons {n : Nat} {f : Ev} {g : Ea} (h : Few n g) : Few (n + 1) (eK f g) := fun e s ds s' q => by
  unfold eK at q
  cases c : f e s with
  | ok d s1 =>
    rw [c] at q
    cases c2 : g e s1 with
    | ok es s2 =>
      simp only [Res.bind_ok, c2] at q
      cases q
      simp [h _ _ _ _ c2]
    | exc x s2 => simp only [Res.bind_ok, c2, Res.bind_exc] at q; cases q
    | bad => simp only [Res.bind_ok, c2, Res.bind_bad] at q; cases q
  | exc x s1 => rw [c] at q; cases q
  | bad => rw [c] at q; cases q
theorem Few.le {n : Nat} {f : Ea} (h : Few n f) (hn : n ≤ 1000) : ∀ e s ds s', f e s = .ok ds s' → ds.length ≤ 1000 := fun e s ds s' q => by rw [h e s ds s' q]; exact hn
theorem impN {r : List V → Hp → VK → Prop} {p : List D → S → Res D} (hp : PN X r p) : ∀ σ H Q, tE X.K X.mg W (eA p fs) σ H Q → tCB r (tA X.K X.mg W fs) σ H Q := fun σ H Q ⟨w, e, s, er, sm, q⟩ =>
  ⟨w, e, s, er, sm, (wr_bind q).mono fun v H1 ⟨w1, d1, s1, st1, sm1, r1, q1⟩ => hp w1 s1 H1 d1 v Q _ sm1 r1 q1⟩
theorem re_callB {x : Str} {p : Pos} {id : String} {r : List V → Hp → VK → Prop} {pr : List D → S → Res D} (hc : CallR X (.builtin id) r) (hp : PN X r pr) (hg : Gl X x) (hm : X.mg x = none) (hv : bootBuiltins x = some (.builtin id)) (ha : RA X W (a :: es) fs)
    (hn : x ≠ "__name__" := by decide) (hdb : (x == ("__debug__" : Str)) = false := by decide)
    (he : starEach (a :: es) X.env = (false, eval a X.env) :: starEach es X.env := by rfl) (hpl : (backTo pos (starEach es X.env)).any (·.1) = false := by rfl) : RE X W (.Call (.Name x p) (a :: es) [] pos) (eA pr fs) := PE.imp (pe_callB hc hg hm hv ha hn hdb he hpl) (impN hp)
theorem re_callTy {x : Str} {p : Pos} {id : String} {r : List V → Hp → VK → Prop} {pr : List D → S → Res D} (hc : CallR X (.type id) r) (hp : PN X r pr) (hg : Gl X x) (hm : X.mg x = none) (hv : bootBuiltins x = some (.type id)) (ha : RA X W (a :: es) fs)
    (hn : x ≠ "__name__" := by decide) (hdb : (x == ("__debug__" : Str)) = false := by decide)
    (he : starEach (a :: es) X.env = (false, eval a X.env) :: starEach es X.env := by rfl) (hpl : (backTo pos (starEach es X.env)).any (·.1) = false := by rfl) : RE X W (.Call (.Name x p) (a :: es) [] pos) (eA pr fs) := PE.imp (pe_callTy hc hg hm hv ha hn hdb he hpl) (impN hp)
/-- the promise of a def by its mirror -/
def spOf (K : PySem.W.Frag) (G : Str → Option Value) (M : List D → S → Res D) (n : Nat) : Sp := fun vs H Q E => ∃ w ds s, Rs K w H ds vs ∧ Sim K w s H ∧ ds.length = n ∧ wr K G (TR K) w H (M ds s) Q E
def eF (n : Nat) (M : List D → S → Res D) (f : Ea) : Ev := fun e s => (f e s).bind fun ds s => if ds.length = n then M ds s else .bad
theorem re_call {k n : Nat} {M : List D → S → Res D} {f : Addr} {fd : FuncData} {ps : List Str} {x : Str} {p : Pos} (F : FnOk X.prog X.w X.K X.mg X.base (L2.CX X.prog X.w) k f fd ps (spOf X.K X.mg M n)) (hr : Room k X.A) (hg : Gl X x)
    (hm : X.mg x = some (.ref f)) (hk : PySem.W.keepIn X.K (.ref f) = true) (hb : Binds X.K fd ps []) (tk : Takes X W) (ha : RA X W (a :: es) fs) (hdb : (x == ("__debug__" : Str)) = false := by decide)
    (he : starEach (a :: es) X.env = (false, eval a X.env) :: starEach es X.env := by rfl) (hpl : (backTo pos (starEach es X.env)).any (·.1) = false := by rfl) : RE X W (.Call (.Name x p) (a :: es) [] pos) (eF n M fs) :=
  PE.imp (pe_callS F hr hg hm hk hb (fun σ => passAt tk σ) ha hdb he hpl) fun σ H Q ⟨w, e, s, er, sm, q⟩ =>
    ⟨w, e, s, er, sm, (wr_bind q).mono fun v H1 ⟨w1, d1, s1, st1, sm1, r1, q1⟩ => by
      by_cases hl : d1.length = n
      · rw [if_pos hl] at q1
        exact ⟨w1, d1, s1, r1, sm1, hl, q1⟩
      · rw [if_neg hl] at q1
        exact q1.elim⟩
end
end Cf

set_option Elab.async false
set_option linter.all false
set_option maxRecDepth 100000
set_option maxHeartbeats 4000000
/-! Cf, part C: statements, loops, comprehensions, defs. -/
namespace Cf
open PySem PySem.Spec L2
open PyProof.Rows hiding St

inductive Out where
  | nx (e : En) | rt (d : D) | bk (e : En) | ct (e : En) | xc (x : Exn) (e : En)
abbrev Es := En → S → Res Out
section
variable (K : PySem.W.Frag) (G : Str → Option Value)
def OutOk (w : Wd) (H : Hp) (o : Out) (D : Ends) (W : WX) : Prop := match o with
  | .nx e => ∀ σ, ER K w H e σ → D.nx σ H
  | .rt d => ∀ v, R K w H d v → D.rt v H
  | .bk e => ∀ σ, ER K w H e σ → D.bk σ H
  | .ct e => ∀ σ, ER K w H e σ → D.ct σ H
  | .xc x e => ∀ σ cls d, ER K w H e σ → ExR K G w H x cls d → W cls d σ H
def wrS (w : Wd) (H : Hp) (r : Res Out) (D : Ends) (W : WX) : Prop := match r with
  | .ok o s' => ∀ w' H', Step w H w' H' → Sim K w' s' H' → OutOk K G w' H' o D W
  | _ => False
def tS (W : WX) (g : Es) : TS := fun D σ H => ∃ w e s, ER K w H e σ ∧ Sim K w s H ∧ wrS K G w H (g e s) D W
end
/-- an expression, then what is done with its value -/
def sB {α : Type} (f : En → S → Res α) (k : α → En → S → Res Out) : Es := fun e s => match f e s with
  | .ok a s' => k a e s'
  | .exc x s' => .ok (.xc x e) s'
  | .bad => .bad
section
variable {K : PySem.W.Frag} {G : Str → Option Value} {w w1 : Wd} {H H1 : Hp} {s : S} {e : En} {σ : St} {D : Ends} {W : WX}
theorem wrS.step {r : Res Out} (h : wrS K G w H r D W) (st : Step w H w1 H1) : wrS K G w1 H1 r D W := by
  cases r with
  | ok o s' => exact fun w' H' st' sm => h w' H' (st.trans st') sm
  | exc x s' => exact h
  | bad => exact h
theorem wrS_bind {α β : Type} {T : Wd → Hp → α → β → Prop} {f : En → S → Res α} {k : α → En → S → Res Out} (h : wrS K G w H (sB f k e s) D W) (er : ER K w H e σ) :
    wr K G T w H (f e s) (fun b H1 => ∃ w1 a s1, Step w H w1 H1 ∧ Sim K w1 s1 H1 ∧ T w1 H1 a b ∧ wrS K G w1 H1 (k a e s1) D W) (fun c d H' => W c d σ H') := by
  unfold sB at h
  cases q : f e s with
  | ok a s' =>
    rw [q] at h
    exact fun w' b H' st sm t => ⟨w', a, s', st, sm, t, wrS.step h st⟩
  | exc x s' =>
    rw [q] at h
    exact fun w' H' c d st sm xr => h w' H' st sm σ c d (er.step st) xr
  | bad => rw [q] at h; exact h
end

/-! ### plain statements -/
def sSet (i : Nat) (f : Ev) : Es := sB f fun d e s => .ok (.nx (e.set i (some d))) s
def sRet (f : Ev) : Es := sB f fun d _ s => .ok (.rt d) s
def sRetN : Es := fun _ s => .ok (.rt .non) s
def sExpr (f : Ev) : Es := sB f fun _ e s => .ok (.nx e) s
def sIf (c : Eb) (g h : Es) : Es := sB c fun b e s => if b then g e s else h e s
def sSeq (g h : Es) : Es := fun e s => match g e s with
  | .ok (.nx e') s' => h e' s'
  | r => r
def sNil : Es := fun e s => .ok (.nx e) s
def sBrk : Es := fun e s => .ok (.bk e) s
def sCnt : Es := fun e s => .ok (.ct e) s
def sBad : Es := fun _ _ => .bad
section
variable {X : Cx} {W : WX} {a b c : Expr} {fa fb fc : Ev} {gc : Eb} {g h : Es} {st : Stmt} {sts sts' : List Stmt} {pos : Pos}
abbrev RS (X : Cx) (W : WX) (st : Stmt) (g : Es) : Prop := PS X st (tS X.K X.mg W g)
abbrev RSs (X : Cx) (W : WX) (st : List Stmt) (g : Es) : Prop := PSs X st (tS X.K X.mg W g)
theorem rss_nil : RSs X W [] sNil := PSs.imp pss_nil fun D σ H ⟨w, e, s, er, sm, q⟩ => q w H Step.refl sm σ er
theorem impSeq : ∀ D σ H, tS X.K X.mg W (sSeq g h) D σ H → tSeq (tS X.K X.mg W g) (tS X.K X.mg W h) D σ H := fun D σ H ⟨w, e, s, er, sm, q⟩ => by
  refine ⟨w, e, s, er, sm, ?_⟩
  unfold sSeq at q
  cases c : g e s with
  | ok o s' =>
    rw [c] at q
    intro w' H' st sm'
    cases o with
    | nx e' => exact fun σ' er' => ⟨w', e', s', er', sm', wrS.step q st⟩
    | rt d => exact q w' H' st sm'
    | bk e' => exact q w' H' st sm'
    | ct e' => exact q w' H' st sm'
    | xc x e' => exact q w' H' st sm'
  | exc x s' => rw [c] at q; exact q
  | bad => rw [c] at q; exact q
theorem rss_cons (h1 : RS X W st g) (h2 : RSs X W sts h) : RSs X W (st :: sts) (sSeq g h) := PSs.imp (pss_cons h1 h2) impSeq
theorem rss_one (h1 : RS X W st g) : RSs X W [st] g := pss_one h1
theorem rs_set {i : Nat} {x : Str} {pos' : Pos} (hN : X.N.Nodup) (hi : X.N[i]? = some x) (hx : Loc X.env.scope x) (ha : RE X W a fa) (hs : swapsWith a (some (.Name x pos')) pos.line X.env = pure false := by rfl)
    (hf : X.fn x = true ∨ X.env.scope.names.lookup x = some .local := by first | exact .inl rfl | exact .inr rfl | assumption) : RS X W (.Assign [.Name x pos'] a pos) (sSet i fa) := PS.imp (ps_set hN hi hx ha hs hf) fun D σ H ⟨w, e, s, er, sm, q⟩ =>
  ⟨w, e, s, er, sm, (wrS_bind q er).mono fun v H1 ⟨w1, d1, s1, st1, sm1, r1, q1⟩ => q1 w1 H1 Step.refl sm1 _ ((er.step st1).set r1)⟩
theorem rs_ret (ha : RE X W a fa) : RS X W (.Return (some a) pos) (sRet fa) := PS.imp (ps_ret ha) fun D σ H ⟨w, e, s, er, sm, q⟩ =>
  ⟨w, e, s, er, sm, (wrS_bind q er).mono fun v H1 ⟨w1, d1, s1, st1, sm1, r1, q1⟩ => q1 w1 H1 Step.refl sm1 v r1⟩
theorem rs_retN : RS X W (.Return none pos) sRetN := PS.imp ps_retN fun D σ H ⟨w, e, s, er, sm, q⟩ => q w H Step.refl sm .non .non
theorem rs_expr (ha : RE X W a fa) (hs : swapsWith a none pos.line X.env = pure false := by rfl) : RS X W (.Expr a pos) (sExpr fa) := PS.imp (ps_expr ha hs) fun D σ H ⟨w, e, s, er, sm, q⟩ =>
  ⟨w, e, s, er, sm, (wrS_bind q er).mono fun v H1 ⟨w1, d1, s1, st1, sm1, r1, q1⟩ => q1 w1 H1 Step.refl sm1 σ (er.step st1)⟩
theorem rs_doc {x j pos'} : RS X W (.Expr (.Constant (.str x) j pos) pos') sNil := PS.imp ps_doc fun D σ H ⟨w, e, s, er, sm, q⟩ => q w H Step.refl sm σ er
theorem rs_pass : RS X W (.Pass pos) sNil := PS.imp ps_pass fun D σ H ⟨w, e, s, er, sm, q⟩ => q w H Step.refl sm σ er
theorem rs_brk : RS X W (.Break pos) sBrk := PS.imp ps_break fun D σ H ⟨w, e, s, er, sm, q⟩ => q w H Step.refl sm σ er
theorem rs_cnt : RS X W (.Continue pos) sCnt := PS.imp ps_continue fun D σ H ⟨w, e, s, er, sm, q⟩ => q w H Step.refl sm σ er
theorem rs_never : RS X W st sBad := PS.imp ps_never fun D σ H ⟨w, e, s, er, sm, q⟩ => q
theorem rss_never : RSs X W sts sBad := PSs.imp pss_never fun D σ H ⟨w, e, s, er, sm, q⟩ => q
theorem rs_if (hc : RT X W c gc) (ha : RSs X W sts g) (hb : RSs X W sts' h) : RS X W (.If c sts sts' pos) (sIf gc g h) := PS.imp (ps_if hc ha hb) fun D σ H ⟨w, e, s, er, sm, q⟩ =>
  ⟨w, e, s, er, sm, (wrS_bind q er).mono fun v H1 ⟨w1, d1, s1, st1, sm1, r1, q1⟩ => by
    cases r1
    cases v with
    | true => rw [if_pos rfl]; exact ⟨w1, e, s1, er.step st1, sm1, q1⟩
    | false => rw [if_neg Bool.false_ne_true]; exact ⟨w1, e, s1, er.step st1, sm1, q1⟩⟩
end

/-! ### targets -/
inductive Tgt where
  | nm (i : Nat) | tp (ts : List Tgt) | tl (ts : List Tgt)
def tgLen : List Tgt → Nat
  | [] => 0
  | _ :: ts => tgLen ts + 1
section
variable (K : PySem.W.Frag)
mutual
def tgOf : Tgt → TG
  | .nm i => gName i
  | .tp ts => gTup K (tgLen ts) (tgsOf ts)
  | .tl ts => gLst K (tgLen ts) (tgsOf ts)
def tgsOf : List Tgt → TGs
  | [] => gNil
  | t :: ts => gCons (tgOf t) (tgsOf ts)
end
end
mutual
def asg : Tgt → D → En → Option En
  | .nm i, d, e => some (e.set i (some d))
  | .tp ts, .tup ds, e => asgs ts ds e
  | .tl ts, .lst ds, e => asgs ts ds e
  | .tp _, _, _ => none
  | .tl _, _, _ => none
def asgs : List Tgt → List D → En → Option En
  | [], [], e => some e
  | t :: ts, d :: ds, e => match asg t d e with
    | some e' => asgs ts ds e'
    | none => none
  | _, _, _ => none
end
mutual
def inT (vs : List Nat) : Tgt → Bool
  | .nm i => vs.contains i
  | .tp ts => inTs vs ts
  | .tl ts => inTs vs ts
def inTs (vs : List Nat) : List Tgt → Bool
  | [] => true
  | t :: ts => inT vs t && inTs vs ts
end
theorem wipe_set {σ : St} {i : Nat} {x : Option V} : ∀ {vs : List Nat}, i ∈ vs → L2.wipe (σ.set i x) vs = L2.wipe σ vs
  | v :: vs, h => by
    show (L2.wipe (σ.set i x) vs).set v none = (L2.wipe σ vs).set v none
    by_cases q : i ∈ vs
    · rw [wipe_set q]
    · have e : i = v := by
        rcases List.mem_cons.mp h with z | z
        · exact z
        · exact absurd z q
      subst e
      apply List.ext_getElem?
      intro j
      by_cases hj : i = j
      · subst hj
        rw [List.getElem?_set, List.getElem?_set]
        simp [L2.wipe_length]
      · rw [List.getElem?_set_ne hj, List.getElem?_set_ne hj]
        by_cases hm : j ∈ vs
        · clear h
          induction vs with
          | nil => cases hm
          | cons u us ih =>
            show ((L2.wipe (σ.set i x) us).set u none)[j]? = ((L2.wipe σ us).set u none)[j]?
            by_cases hu : u = j
            · subst hu
              rw [List.getElem?_set, List.getElem?_set]
              simp [L2.wipe_length]
            · rw [List.getElem?_set_ne hu, List.getElem?_set_ne hu]
              refine ih (fun z => q (List.mem_cons_of_mem _ z)) ?_
              rcases List.mem_cons.mp hm with z | z
              · exact absurd z.symm hu
              · exact z
        · rw [L2.wipe_out hm, L2.wipe_out hm, List.getElem?_set_ne hj]
section
variable {K : PySem.W.Frag} {w : Wd} {H : Hp}
mutual
theorem tg_ok : ∀ (t : Tgt) (d : D) (e e' : En) (v : V) (σ : St) (vs : List Nat) (Q : St → Hp → Prop), R K w H d v → ER K w H e σ → asg t d e = some e' → (inT vs t = true ∨ vs = []) →
    (∀ σ', ER K w H e' σ' → (inT vs t = true → L2.wipe σ' vs = L2.wipe σ vs) → Q σ' H) → tgOf K t v σ H Q
  | .nm i, d, e, e', v, σ, vs, Q, r, er, h, hv, q => by
    simp only [asg] at h
    cases h
    refine q _ (er.set r) fun z => wipe_set ?_
    simpa [inT] using z
  | .tp ts, d, e, e', v, σ, vs, Q, r, er, h, hv, q => by
    cases r with
    | tup n hh rs =>
      simp only [asg] at h
      have hl := tgs_len ts _ e e' h
      exact ⟨_, _, rfl, .of hh, by rw [← rs.length]; exact hl, tgs_ok ts _ e e' _ σ vs Q rs er h hv q⟩
    | _ => simp [asg] at h
  | .tl ts, d, e, e', v, σ, vs, Q, r, er, h, hv, q => by
    cases r with
    | lst hh rs =>
      simp only [asg] at h
      have hl := tgs_len ts _ e e' h
      exact ⟨_, _, rfl, .of hh.2.2, by rw [← rs.length]; exact hl, tgs_ok ts _ e e' _ σ vs Q rs er h hv q⟩
    | _ => simp [asg] at h
theorem tgs_ok : ∀ (ts : List Tgt) (ds : List D) (e e' : En) (us : List V) (σ : St) (vs : List Nat) (Q : St → Hp → Prop), Rs K w H ds us → ER K w H e σ → asgs ts ds e = some e' → (inTs vs ts = true ∨ vs = []) →
    (∀ σ', ER K w H e' σ' → (inTs vs ts = true → L2.wipe σ' vs = L2.wipe σ vs) → Q σ' H) → tgsOf K ts us σ H Q
  | [], ds, e, e', us, σ, vs, Q, rs, er, h, hv, q => by
    cases rs with
    | nil => simp only [asgs] at h; cases h; exact ⟨rfl, q σ er fun _ => rfl⟩
    | cons r rs => simp [asgs] at h
  | t :: ts, ds, e, e', us, σ, vs, Q, rs, er, h, hv, q => by
    cases rs with
    | nil => simp [asgs] at h
    | cons r rs =>
      simp only [asgs] at h
      split at h
      · rename_i e1 he1
        have hv1 : inT vs t = true ∨ vs = [] := by
          rcases hv with z | z
          · simp only [inTs, Bool.and_eq_true] at z; exact .inl z.1
          · exact .inr z
        have hv2 : inTs vs ts = true ∨ vs = [] := by
          rcases hv with z | z
          · simp only [inTs, Bool.and_eq_true] at z; exact .inl z.2
          · exact .inr z
        refine ⟨_, _, rfl, tg_ok t _ e e1 _ σ vs _ r er he1 hv1 fun σ1 er1 hw1 => tgs_ok ts _ e1 e' _ σ1 vs Q rs er1 h hv2 fun σ2 er2 hw2 => q σ2 er2 fun z => ?_⟩
        simp only [inTs, Bool.and_eq_true] at z
        rw [hw2 z.2, hw1 z.1]
      · cases h
theorem tgs_len : ∀ (ts : List Tgt) (ds : List D) (e e' : En), asgs ts ds e = some e' → ds.length = tgLen ts
  | [], ds, e, e', h => by
    cases ds with
    | nil => rfl
    | cons d ds => simp [asgs] at h
  | t :: ts, ds, e, e', h => by
    cases ds with
    | nil => simp [asgs] at h
    | cons d ds =>
      simp only [asgs] at h
      split at h
      · rename_i e1 he1
        simp only [tgLen, List.length_cons, tgs_len ts ds e1 e' h]
      · cases h
end
end
/-- a, b = e -/
def sAsg (t : Tgt) (f : Ev) : Es := sB f fun d e s => match asg t d e with
  | some e' => .ok (.nx e') s
  | none => .bad
section
variable {X : Cx} {W : WX} {a : Expr} {fa : Ev} {pos : Pos}
theorem rs_asg {tg : Expr} {t : Tgt} (ha : RE X W a fa) (hg : PG X tg (tgOf X.K t)) (hs : swapsWithSole [tg] a pos.line X.env = pure false := by rfl) (hw : swappedStores [tg] a X.env = pure none := by rfl)
    (h1 : (assignEach [tg] X.env).map (·.2) = [assign tg X.env] := by rfl) : RS X W (.Assign [tg] a pos) (sAsg t fa) := PS.imp (ps_asg ha hg hs hw h1) fun D σ H ⟨w, e, s, er, sm, q⟩ =>
  ⟨w, e, s, er, sm, (wrS_bind q er).mono fun v H1 ⟨w1, d1, s1, st1, sm1, r1, q1⟩ => by
    cases c : asg t d1 e with
    | none => simp only [c] at q1; exact q1.elim
    | some e' =>
      simp only [c] at q1
      exact tg_ok t d1 e e' v σ [] _ r1 (er.step st1) c (.inr rfl) fun σ' er' _ => q1 w1 H1 Step.refl sm1 σ' er'⟩
end

/-! ### while -/
def sWhile : Nat → Eb → Es → Es
  | 0, _, _ => fun _ _ => .bad
  | n + 1, c, g => sB c fun b e s => if b then (match g e s with
      | .ok (.nx e') s' => sWhile n c g e' s'
      | .ok (.ct e') s' => sWhile n c g e' s'
      | .ok (.bk e') s' => .ok (.nx e') s'
      | r => r) else .ok (.nx e) s
section
variable {X : Cx} {W : WX} {c : Expr} {gc : Eb} {g : Es} {sts : List Stmt} {pos : Pos}
theorem rs_while (n : Nat) (hp : PassesOwn (model X.prog X.w) X.A X.env X.xe) (hc : RT X W c gc) (hb : RSs X W sts g) : RS X W (.While c sts [] pos) (sWhile n gc g) := PS.imp (ps_while hp hc hb) fun D σ H h => by
  refine ⟨fun m σ H => tS X.K X.mg W (sWhile m gc g) D σ H, ⟨n, h⟩, fun m σ H ⟨w, e, s, er, sm, q⟩ => ?_⟩
  cases m with
  | zero => exact q.elim
  | succ m =>
    refine ⟨w, e, s, er, sm, (wrS_bind q er).mono fun v H1 ⟨w1, d1, s1, st1, sm1, r1, q1⟩ => ?_⟩
    cases r1
    cases v with
    | false =>
      rw [if_neg Bool.false_ne_true]
      exact q1 w1 H1 Step.refl sm1 σ (er.step st1)
    | true =>
      rw [if_pos rfl]
      refine ⟨fun σ H => tS X.K X.mg W (sWhile m gc g) D σ H, fun σ' H' hh => ⟨m, Nat.lt_succ_self m, hh⟩, w1, e, s1, er.step st1, sm1, ?_⟩
      have q2 := q1
      rw [if_pos rfl] at q2
      cases z : g e s1 with
      | ok o s' =>
        rw [z] at q2
        intro w' H' st' sm'
        cases o with
        | nx e' => exact fun σ' er' => ⟨w', e', s', er', sm', wrS.step q2 st'⟩
        | ct e' => exact fun σ' er' => ⟨w', e', s', er', sm', wrS.step q2 st'⟩
        | bk e' => exact fun σ' er' => q2 w' H' st' sm' σ' er'
        | rt d => exact q2 w' H' st' sm'
        | xc x e' => exact q2 w' H' st' sm'
      | exc x s' => rw [z] at q2; exact q2
      | bad => rw [z] at q2; exact q2
end

/-! ### what is walked -/
inductive Wlk where
  | seq (xs : List D) | cell (n len : Nat) | enu (n len : Nat)
def Wlk.len : Wlk → Nat
  | .seq xs => xs.length
  | .cell _ k => k
  | .enu _ k => k
def nextIt (it : Wlk) (i : Nat) (s : S) : Option (Option D) := match it with
  | .seq xs => some xs[i]?
  | .cell n _ => match s[n]? with
    | some xs => some xs[i]?
    | none => none
  | .enu n _ => match s[n]? with
    | some xs => some (xs[i]?.map fun d => .tup [.int (i : Int), d])
    | none => none
structure ItOk (K : PySem.W.Frag) (w0 : Wd) (H0 : Hp) (it : Wlk) (J : It) : Prop where
  go : ∀ w s H i d, PStep w0 H0 w H → Sim K w s H → nextIt it i s = some (some d) → J.go i H ∧ ∀ x H', J.yld i H x H' → Step w H w H' ∧ Sim K w s H' ∧ R K w H' d x
  stop : ∀ w s H i, PStep w0 H0 w H → Sim K w s H → nextIt it i s = some none → J.stop i H
abbrev Ei := En → S → Res Wlk
abbrev RI (X : Cx) (W : WX) (tg e : Expr) (f : Ei) : Prop := PI X tg e (tG X.K X.mg (fun w H it J => ItOk X.K w H it J) W f)
/-- the walk of a value -/
def itOf (d : D) (s : S) : Res Wlk := match d with
  | .lst xs => .ok (.seq xs) s
  | .fz xs => .ok (.seq xs) s
  | .ref n => match s[n]? with
    | some xs => .ok (.cell n xs.length) s
    | none => .bad
  | _ => .bad
def itTup (d : D) (s : S) : Res Wlk := match d with
  | .tup xs => .ok (.seq xs) s
  | _ => .bad
def eIt (p : D → S → Res Wlk) (f : Ev) : Ei := fun e s => (f e s).bind p
def eItA (p : List D → S → Res Wlk) (f : Ea) : Ei := fun e s => (f e s).bind p
section
variable {K : PySem.W.Frag} {w : Wd} {H : Hp} {s : S}
theorem itl_seq {a : Addr} {ds : List D} {vs : List V} (hs : ∀ w' H', PStep w H w' H' → SqL K H' a vs) (rs : Rs K w H ds vs) : ItOk K w H (.seq ds) (Itl K a) where
  go := fun w' s H' i d st sm e => by
    have e' : ds[i]? = some d := Option.some.inj e
    obtain ⟨v, e1, e2⟩ := rs.get e'
    refine ⟨⟨vs, v, hs w' H' st, e1⟩, fun x H2 hy => ?_⟩
    obtain ⟨rfl, hx⟩ := hy
    have := hx vs (hs w' _ st)
    rw [e1] at this
    cases this
    exact ⟨Step.refl, sm, e2.pstep st⟩
  stop := fun w' s H' i st sm e => by
    have e' : ds[i]? = none := Option.some.inj e
    refine ⟨vs, hs w' H' st, ?_⟩
    rw [← rs.length]
    exact List.getElem?_eq_none_iff.mp e'
theorem itt_seq {a : Addr} {ds : List D} {vs : List V} (hs : ∀ w' H', PStep w H w' H' → SqT K H' a vs) (rs : Rs K w H ds vs) : ItOk K w H (.seq ds) (Itt K a) where
  go := fun w' s H' i d st sm e => by
    have e' : ds[i]? = some d := Option.some.inj e
    obtain ⟨v, e1, e2⟩ := rs.get e'
    refine ⟨⟨vs, v, hs w' H' st, e1⟩, fun x H2 hy => ?_⟩
    obtain ⟨rfl, hx⟩ := hy
    have := hx vs (hs w' _ st)
    rw [e1] at this
    cases this
    exact ⟨Step.refl, sm, e2.pstep st⟩
  stop := fun w' s H' i st sm e => by
    have e' : ds[i]? = none := Option.some.inj e
    refine ⟨vs, hs w' H' st, ?_⟩
    rw [← rs.length]
    exact List.getElem?_eq_none_iff.mp e'
theorem itl_cell {a : Addr} {n k : Nat} (ha : w.ρ[n]? = some a) : ItOk K w H (.cell n k) (Itl K a) where
  go := fun w' s H' i d st sm e => by
    simp only [nextIt] at e
    split at e
    · rename_i xs hxs
      have e' : xs[i]? = some d := Option.some.inj e
      obtain ⟨b, vs, e1, e2, e3⟩ := sm.cell n xs hxs
      rw [st.pre n a ha] at e1
      cases e1
      obtain ⟨v, e4, e5⟩ := e3.get e'
      refine ⟨⟨vs, v, .of e2, e4⟩, fun x H2 hy => ?_⟩
      obtain ⟨rfl, hx⟩ := hy
      have := hx vs (.of e2)
      rw [e4] at this
      cases this
      exact ⟨Step.refl, sm, e5⟩
    · cases e
  stop := fun w' s H' i st sm e => by
    simp only [nextIt] at e
    split at e
    · rename_i xs hxs
      have e' : xs[i]? = none := Option.some.inj e
      obtain ⟨b, vs, e1, e2, e3⟩ := sm.cell n xs hxs
      rw [st.pre n a ha] at e1
      cases e1
      refine ⟨vs, .of e2, ?_⟩
      rw [← e3.length]
      exact List.getElem?_eq_none_iff.mp e'
    · cases e
theorem itr_seq (lo : Int) (n : Nat) : ItOk K w H (.seq ((List.range n).map fun (i : Nat) => D.int (lo + i))) (Itr lo n) where
  go := fun w' s H' i d st sm e => by
    have e' : ((List.range n).map fun (i : Nat) => D.int (lo + i))[i]? = some d := Option.some.inj e
    rw [List.getElem?_map] at e'
    by_cases hi : i < n
    · rw [List.getElem?_range hi] at e'
      cases e'
      refine ⟨hi, fun x H2 hy => ?_⟩
      obtain ⟨rfl, rfl⟩ := hy
      exact ⟨Step.refl, sm, .int _⟩
    · rw [List.getElem?_eq_none_iff.mpr (by simp; omega)] at e'
      cases e'
  stop := fun w' s H' i st sm e => by
    have e' : ((List.range n).map fun (i : Nat) => D.int (lo + i))[i]? = none := Option.some.inj e
    have := List.getElem?_eq_none_iff.mp e'
    show n ≤ i
    simpa using this
theorem itOf_ok {d : D} {v : V} {r : Res Wlk} (hr : itOf d s = r) (h : R K w H d v) (sm : Sim K w s H) : (∃ it, r = .ok it s ∧ ∃ a vs, v = .ref a ∧ SqL K H a vs ∧ ItOk K w H it (Itl K a)) ∨ r = .bad := by
  cases h with
  | lst q rs =>
    subst hr
    exact .inl ⟨_, rfl, _, _, rfl, .of q.2.2, itl_seq (fun w' H' st => .of (q.pstep st).2.2) rs⟩
  | fz q rs =>
    subst hr
    exact .inl ⟨_, rfl, _, _, rfl, q.sq, itl_seq (fun w' H' st => (q.pstep st).sq) rs⟩
  | @ref a n q =>
    simp only [itOf] at hr
    split at hr
    · rename_i xs hxs
      subst hr
      obtain ⟨b, vs, e1, e2, e3⟩ := sm.cell n xs hxs
      rw [q] at e1
      cases e1
      exact .inl ⟨_, rfl, _, _, rfl, .of e2, itl_cell q⟩
    · exact .inr hr.symm
  | _ => exact .inr hr.symm
end
section
variable {X : Cx} {W : WX} {tg a b c : Expr} {fa : Ev} {fs : Ea} {pos : Pos}
theorem ri_list (ha : RE X W a fa) : RI X W tg a (eIt itOf fa) := PI.imp (pi_list ha) fun σ H Q ⟨w, e, s, er, sm, q⟩ =>
  ⟨w, e, s, er, sm, (wr_bind q).mono fun v H1 ⟨w1, d1, s1, st1, sm1, r1, q1⟩ => by
    rcases itOf_ok rfl r1 sm1 with ⟨it, e1, a, vs, rfl, hs, ok⟩ | e1
    · rw [e1] at q1
      exact ⟨a, rfl, ⟨vs, hs⟩, q1 w1 _ H1 Step.refl sm1 ok⟩
    · rw [e1] at q1
      exact q1.elim⟩
theorem ri_tup (ha : RE X W a fa) : RI X W tg a (eIt itTup fa) := PI.imp (pi_tup ha) fun σ H Q ⟨w, e, s, er, sm, q⟩ =>
  ⟨w, e, s, er, sm, (wr_bind q).mono fun v H1 ⟨w1, d1, s1, st1, sm1, r1, q1⟩ => by
    cases r1 with
    | @tup a ds vs n hh rs =>
      exact ⟨a, rfl, ⟨vs, .of hh⟩, q1 w1 _ H1 Step.refl sm1 (itt_seq (fun w' H' st => .of (st.keep _ _ hh n.1 n.2)) rs)⟩
    | _ => exact q1.elim⟩
def pRng1 (xs : List D) (s : S) : Res Wlk := match xs with
  | [.int j] => if -(2 ^ 62) ≤ j ∧ j < 2 ^ 62 then .ok (.seq ((List.range j.toNat).map fun (i : Nat) => D.int (0 + i))) s else .bad
  | _ => .bad
def pRng2 (xs : List D) (s : S) : Res Wlk := match xs with
  | [.int i, .int j] => if -(2 ^ 62) ≤ i ∧ i < 2 ^ 62 ∧ -(2 ^ 62) ≤ j ∧ j < 2 ^ 62 then .ok (.seq ((List.range (j - i).toNat).map fun (k : Nat) => D.int (i + k))) s else .bad
  | _ => .bad
theorem ri_range1 {p : Pos} (hg : Gl X "range") (hm : X.mg "range" = none) (ha : RA X W [a] fs) (hs : starEach [a] X.env = [(false, eval a X.env)] := by rfl) : RI X W tg (.Call (.Name "range" p) [a] [] pos) (eItA pRng1 fs) := PI.imp (pi_range1 hg hm ha hs) fun σ H Q ⟨w, e, s, er, sm, q⟩ =>
  ⟨w, e, s, er, sm, (wr_bind q).mono fun v H1 ⟨w1, d1, s1, st1, sm1, r1, q1⟩ => by
    unfold pRng1 at q1
    split at q1
    · split at q1
      · rename_i j hj
        cases r1 with
        | cons r rs =>
          cases rs
          cases r
          exact ⟨_, rfl, hj.1, hj.2, q1 w1 _ H1 Step.refl sm1 (itr_seq 0 _)⟩
      · exact q1.elim
    · exact q1.elim⟩
theorem ri_range2 {p : Pos} (hg : Gl X "range") (hm : X.mg "range" = none) (ha : RA X W [a, b] fs) (hs : starEach [a, b] X.env = [(false, eval a X.env), (false, eval b X.env)] := by rfl) (hs2 : starEach [b] X.env = [(false, eval b X.env)] := by rfl) :
    RI X W tg (.Call (.Name "range" p) [a, b] [] pos) (eItA pRng2 fs) := PI.imp (pi_range2 hg hm ha hs hs2) fun σ H Q ⟨w, e, s, er, sm, q⟩ =>
  ⟨w, e, s, er, sm, (wr_bind q).mono fun v H1 ⟨w1, d1, s1, st1, sm1, r1, q1⟩ => by
    unfold pRng2 at q1
    split at q1
    · split at q1
      · rename_i i j hj
        cases r1 with
        | cons r rs =>
          cases rs with
          | cons r2 rs =>
            cases rs
            cases r
            cases r2
            exact ⟨_, _, rfl, hj, q1 w1 _ H1 Step.refl sm1 (itr_seq _ _)⟩
      · exact q1.elim
    · exact q1.elim⟩
end

/-! ### for -/
def forI (it : Wlk) (t : Tgt) (g : Es) : Nat → Nat → Es
  | k, i => fun e s => match nextIt it i s with
    | some none => .ok (.nx e) s
    | some (some d) => match k with
      | 0 => .bad
      | k + 1 => match asg t d e with
        | some e1 => match g e1 s with
          | .ok (.nx e2) s2 => forI it t g k (i + 1) e2 s2
          | .ok (.ct e2) s2 => forI it t g k (i + 1) e2 s2
          | .ok (.bk e2) s2 => .ok (.nx e2) s2
          | r => r
        | none => .bad
    | none => .bad
def sFor (fi : Ei) (t : Tgt) (g : Es) : Es := sB fi fun it e s => forI it t g it.len 0 e s
section
variable {X : Cx} {W : WX} {tg iter : Expr} {fi : Ei} {g : Es} {t : Tgt} {sts : List Stmt} {pos : Pos}
theorem rs_for (hp : PassesOwn (model X.prog X.w) X.A X.env X.xe) (hc : X.calm = true) (hi : RI X W tg iter fi) (hg : PG X tg (tgOf X.K t)) (hb : RSs X W sts g) (hs : ∀ x, foldedSetIterable iter X.env x = pure x := by intro _; rfl) :
    RS X W (.For tg iter sts [] pos) (sFor fi t g) := PS.imp (ps_for hp hc hi hg hb hs) fun D σ H ⟨w, e, s, er, sm, q⟩ =>
  ⟨w, e, s, er, sm, (wrS_bind q er).mono fun J H1 ⟨w1, it, s1, st1, sm1, ok, q1⟩ => by
    refine ⟨fun i m σ H => ∃ w e s, Step w1 H1 w H ∧ ER X.K w H e σ ∧ Sim X.K w s H ∧ wrS X.K X.mg w H (forI it t g m i e s) D W, ⟨it.len, w1, e, s1, Step.refl, er.step st1, sm1, q1⟩, ?_⟩
    rintro i m σ H ⟨w, e, s, st, er, sm, q⟩
    unfold forI at q
    cases z : nextIt it i s with
    | none => rw [z] at q; exact q.elim
    | some o =>
      rw [z] at q
      cases o with
      | none => exact .inl ⟨ok.stop w s H i st.p sm z, q w H Step.refl sm σ er⟩
      | some d =>
        obtain ⟨g1, g2⟩ := ok.go w s H i d st.p sm z
        cases m with
        | zero => exact q.elim
        | succ m =>
          simp only at q
          cases za : asg t d e with
          | none => rw [za] at q; exact q.elim
          | some e1 =>
            rw [za] at q
            refine .inr ⟨g1, fun σ H => ∃ w e s, Step w1 H1 w H ∧ ER X.K w H e σ ∧ Sim X.K w s H ∧ wrS X.K X.mg w H (forI it t g m (i + 1) e s) D W, fun σ' H' hh => ⟨m, Nat.lt_succ_self m, hh⟩, fun x H' hy => ?_⟩
            obtain ⟨st2, sm2, r2⟩ := g2 x H' hy
            refine tg_ok t d e e1 x σ [] _ r2 (er.step st2) za (.inr rfl) fun σ2 er2 _ => ⟨w, e1, s, er2, sm2, ?_⟩
            simp only at q
            cases zg : g e1 s with
            | ok o s' =>
              rw [zg] at q
              intro w' H'' st' sm'
              cases o with
              | nx e' => exact fun σ' er' => ⟨w', e', s', (st.trans st2).trans st', er', sm', wrS.step q (st2.trans st')⟩
              | ct e' => exact fun σ' er' => ⟨w', e', s', (st.trans st2).trans st', er', sm', wrS.step q (st2.trans st')⟩
              | bk e' => exact fun σ' er' => q w' H'' (st2.trans st') sm' σ' er'
              | rt d => exact q w' H'' (st2.trans st') sm'
              | xc x e' => exact q w' H'' (st2.trans st') sm'
            | exc x s' => rw [zg] at q; exact q
            | bad => rw [zg] at q; exact q⟩
end
end Cf

set_option Elab.async false
set_option linter.all false
set_option maxRecDepth 100000
set_option maxHeartbeats 4000000
/-! Cf, part D: comprehensions, defs. -/
namespace Cf
open PySem PySem.Spec L2
open PyProof.Rows hiding St

def noX {α : Type} : Res α → Res α
  | .ok a s => .ok a s
  | _ => .bad
@[simp] theorem noX_ok {α : Type} (a : α) (s : S) : noX (.ok a s) = .ok a s := rfl
def compI (it : Wlk) (t : Tgt) (c : Eb) (f : Ev) : Nat → Nat → En → S → Res (List D)
  | k, i => fun e s => match nextIt it i s with
    | some none => .ok [] s
    | some (some d) => match k with
      | 0 => .bad
      | k + 1 => match asg t d e with
        | some e1 => (noX (c e1 s)).bind fun b s1 => if b then (noX (f e1 s1)).bind fun y s2 => (compI it t c f k (i + 1) e s2).bind fun ys s3 => .ok (y :: ys) s3 else compI it t c f k (i + 1) e s1
        | none => .bad
    | none => .bad
/-- [f for t in it if c]; vs: the slots of t -/
def eLc (k : Bool) (fi : Ei) (vs : List Nat) (t : Tgt) (c : Eb) (f : Ev) : Ev := fun e s => (fi e s).bind fun it s => if it.len ≤ sizeLine then (compI it t c f it.len 0 (wipeE e vs) s).bind (mkL k) else .bad
def bYes : Eb := fun _ s => .ok true s

section
variable {K : PySem.W.Frag} {w w' : Wd} {H H' : Hp} {s : S} {A : Addr} {xs ys : List V}
/-- the list in the making is written: what stands for data stands on -/
theorem LQ.pin {a : Addr} {vs : List V} (h : LQ w H a vs) (hA : A ∈ w.χ) : LQ w (upd H A (.lst ys)) a vs :=
  ⟨h.1, h.2.1, by rw [upd_ne (fun q => h.2.1 (by rw [q]; exact hA))]; exact h.2.2⟩
mutual
theorem R.pin {d : D} {v : V} (hA : A ∈ w.χ) (hl : H A = some (.lst xs)) : R K w H d v → R K w (upd H A (.lst ys)) d v
  | .non => .non
  | .bl b => .bl b
  | .int i => .int i
  | .str x => .str x
  | .tup n h rs => .tup n (by rw [upd_ne (ne_of h hl (by intro z; cases z))]; exact h) (Rs.pin hA hl rs)
  | .lst h rs => .lst (h.pin hA) (Rs.pin hA hl rs)
  | .fz h rs => .fz (by
      rcases h with ⟨n, o, q⟩ | q
      · exact .inl ⟨n, o, by rw [upd_ne (ne_of q hl (by intro z; cases z))]; exact q⟩
      · exact .inr q) (Rs.pin hA hl rs)
  | .ref h => .ref h
theorem Rs.pin {ds : List D} {vs : List V} (hA : A ∈ w.χ) (hl : H A = some (.lst xs)) : Rs K w H ds vs → Rs K w (upd H A (.lst ys)) ds vs
  | .nil => .nil
  | .cons r rs => .cons (R.pin hA hl r) (Rs.pin hA hl rs)
end
theorem Sim.pin (h : Sim K w s H) (hA : A ∈ w.χ) (hl : H A = some (.lst xs)) : Sim K w s (upd H A (.lst ys)) where
  len := h.len
  nd := h.nd
  cell := fun n ds e => by
    obtain ⟨a, vs, e1, e2, e3⟩ := h.cell n ds e
    have ne : a ≠ A := fun q => (h.chi A hA).1 (by rw [← q]; exact mem_of_get e1)
    exact ⟨a, vs, e1, by rw [upd_ne ne]; exact e2, Rs.pin hA hl e3⟩
  chi := fun a q => by
    obtain ⟨e1, x, e2⟩ := h.chi a q
    refine ⟨e1, ?_⟩
    by_cases z : a = A
    · rw [z]; exact ⟨_, upd_same⟩
    · exact ⟨x, by rw [upd_ne z]; exact e2⟩
/-! fewer lists in the making -/
mutual
theorem R.less {d : D} {v : V} {χ : List Addr} (hs : ∀ a, a ∈ χ → a ∈ w.χ) : R K w H d v → R K ⟨w.ρ, χ⟩ H d v
  | .non => .non
  | .bl b => .bl b
  | .int i => .int i
  | .str x => .str x
  | .tup n h rs => .tup ⟨n.1, fun q => n.2 (hs _ q)⟩ h (Rs.less hs rs)
  | .lst h rs => .lst ⟨h.1, fun q => h.2.1 (hs _ q), h.2.2⟩ (Rs.less hs rs)
  | .fz h rs => .fz (by
      rcases h with ⟨n, o, q⟩ | q
      · exact .inl ⟨⟨n.1, fun z => n.2 (hs _ z)⟩, o, q⟩
      · exact .inr q) (Rs.less hs rs)
  | .ref h => .ref h
theorem Rs.less {ds : List D} {vs : List V} {χ : List Addr} (hs : ∀ a, a ∈ χ → a ∈ w.χ) : Rs K w H ds vs → Rs K ⟨w.ρ, χ⟩ H ds vs
  | .nil => .nil
  | .cons r rs => .cons (R.less hs r) (Rs.less hs rs)
end
theorem Sim.less {χ : List Addr} (h : Sim K w s H) (hs : ∀ a, a ∈ χ → a ∈ w.χ) : Sim K ⟨w.ρ, χ⟩ s H where
  len := h.len
  nd := h.nd
  cell := fun n ds e => by
    obtain ⟨a, vs, e1, e2, e3⟩ := h.cell n ds e
    exact ⟨a, vs, e1, e2, Rs.less hs e3⟩
  chi := fun a q => h.chi a (hs a q)
/-! a list in the making becomes one of the store -/
mutual
theorem R.reg {d : D} {v : V} {χ : List Addr} {l : List V} (hA : A ∈ w.χ) (hl : H A = some (.lst l)) (hs : ∀ a, a ∈ χ → a ∈ w.χ) : R K w H d v → R K ⟨w.ρ ++ [A], χ⟩ H d v
  | .non => .non
  | .bl b => .bl b
  | .int i => .int i
  | .str x => .str x
  | .tup n h rs => .tup ⟨fun q => n.1 ((List.mem_append.mp q).elim id fun z => absurd h (by rw [List.mem_singleton.mp z, hl]; intro e; cases e)), fun q => n.2 (hs _ q)⟩ h (Rs.reg hA hl hs rs)
  | .lst h rs => .lst ⟨fun q => by
      rcases List.mem_append.mp q with z | z
      · exact h.1 z
      · exact h.2.1 (by rw [List.mem_singleton.mp z]; exact hA), fun q => h.2.1 (hs _ q), h.2.2⟩ (Rs.reg hA hl hs rs)
  | .fz h rs => .fz (by
      rcases h with ⟨n, o, q⟩ | q
      · refine .inl ⟨⟨fun z => ?_, fun z => n.2 (hs _ z)⟩, o, q⟩
        rcases List.mem_append.mp z with y | y
        · exact n.1 y
        · rw [List.mem_singleton.mp y] at q; rw [hl] at q; cases q
      · exact .inr q) (Rs.reg hA hl hs rs)
  | .ref h => .ref (by
      show (w.ρ ++ [A])[_]? = _
      rw [List.getElem?_append_left (List.getElem?_eq_some_iff.mp h).1]
      exact h)
theorem Rs.reg {ds : List D} {vs : List V} {χ : List Addr} {l : List V} (hA : A ∈ w.χ) (hl : H A = some (.lst l)) (hs : ∀ a, a ∈ χ → a ∈ w.χ) : Rs K w H ds vs → Rs K ⟨w.ρ ++ [A], χ⟩ H ds vs
  | .nil => .nil
  | .cons r rs => .cons (R.reg hA hl hs r) (Rs.reg hA hl hs rs)
end
/-- a list in the making is begun -/
theorem Step.begin (h : Sim K w s H) (n : H A = none) : Step w H ⟨w.ρ, A :: w.χ⟩ (upd H A (.lst xs)) where
  pre := fun _ _ q => q
  chiS := fun a q => List.mem_cons_of_mem _ q
  chi := fun a q m => by
    rcases List.mem_cons.mp q with z | z
    · rw [z]; exact n
    · exact absurd z m
  keep := fun a o e _ => by rw [upd_ne (ne_of_none e n)]; exact e
  there := fun a x e => ⟨x, by rw [upd_ne (ne_of_none e n)]; exact e⟩
  fresh := fun a q m => absurd q m
theorem Sim.begin (h : Sim K w s H) (n : H A = none) : Sim K ⟨w.ρ, A :: w.χ⟩ s (upd H A (.lst xs)) where
  len := h.len
  nd := h.nd
  cell := fun i ds e => by
    obtain ⟨a, vs, e1, e2, e3⟩ := h.cell i ds e
    exact ⟨a, vs, e1, by rw [upd_ne (ne_of_none e2 n)]; exact e2, e3.step (Step.begin h n)⟩
  chi := fun a q => by
    rcases List.mem_cons.mp q with z | z
    · rw [z]; exact ⟨h.notin n, _, upd_same⟩
    · obtain ⟨e1, x, e2⟩ := h.chi a z
      exact ⟨e1, x, by rw [upd_ne (ne_of_none e2 n)]; exact e2⟩
/-- .. and goes on -/
theorem Step.grown (st : Step w H w' H') (n : H A = none) : Step w H w' (upd H' A (.lst ys)) where
  pre := st.pre
  chiS := st.chiS
  chi := st.chi
  keep := fun a o e m => by rw [upd_ne (ne_of_none e n)]; exact st.keep a o e m
  there := fun a o e => by
    obtain ⟨o', q⟩ := st.there a o e
    exact ⟨o', by rw [upd_ne (ne_of_none e n)]; exact q⟩
  fresh := st.fresh
/-- .. and is done: a value, or a list of the store -/
theorem Step.done (st : Step w H w' H') : Step w H ⟨w'.ρ, w.χ⟩ H' where
  pre := st.pre
  chiS := fun _ q => q
  chi := fun _ q m => absurd q m
  keep := st.keep
  there := st.there
  fresh := st.fresh
theorem Step.doneCell (st : Step w H w' H') (n : H A = none) : Step w H ⟨w'.ρ ++ [A], w.χ⟩ H' where
  pre := fun i a q => by
    have q' := st.pre i a q
    show (w'.ρ ++ [A])[i]? = some a
    rw [List.getElem?_append_left (List.getElem?_eq_some_iff.mp q').1]
    exact q'
  chiS := fun _ q => q
  chi := fun _ q m => absurd q m
  keep := st.keep
  there := st.there
  fresh := fun a q m => by
    have q' : a ∈ w'.ρ ++ [A] := q
    rcases List.mem_append.mp q' with z | z
    · exact st.fresh a z m
    · rw [List.mem_singleton.mp z]; exact n
end
section
variable {K : PySem.W.Frag} {G : Str → Option Value} {w w' : Wd} {H H' : Hp} {s : S} {A : Addr} {vs : List V} {ds : List D} {k : Bool} {Q : VK} {W : Value → Option Addr → Hp → Prop}
/-- the end of a list in the making -/
theorem made_end (q : wr K G (TR K) w H (mkL k ds s) Q W) (st : Step w H w' H') (sm0 : Sim K w s H ∨ ∃ s0, Sim K w s0 H) (sm : Sim K w' s H') (hA : A ∈ w'.χ) (n : H A = none) (hl : H' A = some (.lst vs)) (r : Rs K w' H' ds vs) : Q (.ref A) H' := by
  have hs : ∀ a, a ∈ w.χ → a ∈ w'.χ := st.chiS
  have nA : A ∉ w'.ρ := (sm.chi A hA).1
  have nX : A ∉ w.χ := by
    rcases sm0 with z | ⟨s0, z⟩ <;> exact z.notchi n
  cases k with
  | false => exact q ⟨w'.ρ, w.χ⟩ (.ref A) H' st.done (sm.less hs) (.lst ⟨nA, nX, hl⟩ (Rs.less hs r))
  | true =>
    have sm1 := sm.less hs
    have st2 : Step ⟨w'.ρ, w.χ⟩ H' ⟨w'.ρ, w.χ⟩ H' := Step.refl
    refine q ⟨w'.ρ ++ [A], w.χ⟩ (.ref A) H' (st.doneCell n) ?_ (.ref ?_)
    · have up : ∀ {x : D} {v : V}, R K ⟨w'.ρ, w.χ⟩ H' x v → True := fun _ => trivial
      refine ⟨by simp [sm.len], ?_, ?_, ?_⟩
      · show (w'.ρ ++ [A]).Nodup
        rw [List.nodup_append]
        refine ⟨sm.nd, by simp, fun a ha b hb e => ?_⟩
        rw [List.mem_singleton.mp hb] at e
        rw [e] at ha
        exact nA ha
      · intro i es e
        by_cases hi : i < s.length
        · rw [List.getElem?_append_left hi] at e
          obtain ⟨a, us, e1, e2, e3⟩ := sm.cell i es e
          refine ⟨a, us, ?_, e2, Rs.reg hA hl hs e3⟩
          show (w'.ρ ++ [A])[i]? = some a
          rw [List.getElem?_append_left (List.getElem?_eq_some_iff.mp e1).1]
          exact e1
        · have hl2 : i = s.length := by
            have := (List.getElem?_eq_some_iff.mp e).1
            simp at this
            omega
          subst hl2
          have e' : es = ds := by
            rw [List.getElem?_append_right (Nat.le_refl _)] at e
            simpa using e.symm
          subst e'
          refine ⟨A, vs, ?_, hl, Rs.reg hA hl hs r⟩
          show (w'.ρ ++ [A])[s.length]? = some A
          rw [← sm.len, List.getElem?_append_right (Nat.le_refl _)]
          simp
      · intro a ha
        obtain ⟨e1, x, e2⟩ := sm.chi a (hs a ha)
        refine ⟨fun z => ?_, x, e2⟩
        have z' : a ∈ w'.ρ ++ [A] := z
        rcases List.mem_append.mp z' with y | y
        · exact e1 y
        · rw [List.mem_singleton.mp y] at ha
          exact nX ha
    · show (w'.ρ ++ [A])[s.length]? = some A
      rw [← sm.len, List.getElem?_append_right (Nat.le_refl _)]
      simp
end

abbrev W0 : WX := fun _ _ _ _ => False
theorem wr_noX {K : PySem.W.Frag} {G : Str → Option Value} {α β γ δ : Type} {T : Wd → Hp → α → β → Prop} {U : Wd → Hp → γ → δ → Prop} {w : Wd} {H : Hp} {r : Res α} {k : α → S → Res γ} {Q : δ → Hp → Prop} {W : Value → Option Addr → Hp → Prop}
    (h : wr K G U w H ((noX r).bind k) Q W) : wr K G T w H r (fun b H1 => ∃ w1 a s1, Step w H w1 H1 ∧ Sim K w1 s1 H1 ∧ T w1 H1 a b ∧ wr K G U w1 H1 (k a s1) Q W) (fun _ _ _ => False) := by
  cases r with
  | ok a s' => exact fun w' b H' st sm t => ⟨w', a, s', st, sm, t, wr.step h st⟩
  | exc x s' => exact h.elim
  | bad => exact h.elim
theorem wr_pre {K : PySem.W.Frag} {G : Str → Option Value} {w w1 : Wd} {H H1 : Hp} {α β : Type} {T : Wd → Hp → α → β → Prop} {r : Res α} {Q : β → Hp → Prop} {W : Value → Option Addr → Hp → Prop} (h : wr K G T w H r Q W) (st : Step w H w1 H1) : wr K G T w1 H1 r Q W := wr.step h st

section
variable {X : Cx} {W : WX} {tg iter elt cnd : Expr} {fi : Ei} {t : Tgt} {c : Eb} {f : Ev} {pos : Pos}
/-- what a comprehension's loop needs of its turns -/
theorem comp_imp {k : Bool} {vs : List Nat} (hv : inT vs t = true) : ∀ σ H Q, tE X.K X.mg W (eLc k fi vs t c f) σ H Q →
    tLc (tG X.K X.mg (fun w H it J => ItOk X.K w H it J) W fi) (tgOf X.K t) (tT X.K X.mg W0 c) (tE X.K X.mg W0 f) vs σ H Q := by
  rintro σ H Q ⟨w, e, s, er, sm, q⟩
  refine ⟨w, e, s, er, sm, (wr_bind q).mono fun J H1 ⟨w1, it, s1, st1, sm1, ok, q1⟩ => ?_⟩
  have er1 := er.step st1
  intro A nA
  by_cases hz : it.len ≤ sizeLine
  · rw [if_pos hz] at q1
    have key : ∀ (i m : Nat) (acc : List D) (s : S), wr X.K X.mg (TR X.K) w1 H1 ((compI it t c f m i (wipeE e vs) s).bind fun ys s' => mkL k (acc ++ ys) s') Q (fun c d H' => W c d σ H') → True := fun _ _ _ _ _ => trivial
    refine ⟨fun i m H => ∃ w s acc us, Step w1 H1 w H ∧ A ∈ w.χ ∧ Sim X.K w s H ∧ H A = some (.lst us) ∧ Rs X.K w H acc us ∧ us.length ≤ i ∧ i + m ≤ it.len ∧
      wr X.K X.mg (TR X.K) w1 H1 ((compI it t c f m i (wipeE e vs) s).bind fun ys s' => mkL k (acc ++ ys) s') Q (fun c d H' => W c d σ H'),
      ⟨it.len, ⟨w1.ρ, A :: w1.χ⟩, s1, [], [], Step.begin sm1 nA, List.mem_cons_self, sm1.begin nA, upd_same, .nil, Nat.le_refl _, by omega, q1⟩, ?_⟩
    rintro i m H ⟨w, s, acc, us, st, hA, sm, hl, racc, hus, him, q⟩
    unfold compI at q
    cases z : nextIt it i s with
    | none => simp only [z, Res.bind_bad] at q; exact q.elim
    | some o =>
      cases o with
      | none =>
        simp only [z, Res.bind_ok, List.append_nil] at q
        exact .inl ⟨ok.stop w s H i st.p sm z, made_end q st (.inr ⟨s1, sm1⟩) sm hA nA hl racc⟩
      | some d =>
        obtain ⟨g1, g2⟩ := ok.go w s H i d st.p sm z
        cases m with
        | zero => simp only [z, Res.bind_bad] at q; exact q.elim
        | succ m =>
          simp only [z] at q
          cases za : asg t d (wipeE e vs) with
          | none => simp only [za, Res.bind_bad] at q; exact q.elim
          | some e1 =>
            simp only [za] at q
            refine .inr ⟨g1, fun H => ∃ w s acc us, Step w1 H1 w H ∧ A ∈ w.χ ∧ Sim X.K w s H ∧ H A = some (.lst us) ∧ Rs X.K w H acc us ∧ us.length ≤ i + 1 ∧ i + 1 + m ≤ it.len ∧
              wr X.K X.mg (TR X.K) w1 H1 ((compI it t c f m (i + 1) (wipeE e vs) s).bind fun ys s' => mkL k (acc ++ ys) s') Q (fun c d H' => W c d σ H'), fun H' hh => ⟨m, Nat.lt_succ_self m, hh⟩, fun x H' hy => ?_⟩
            obtain ⟨st2, sm2, r2⟩ := g2 x H' hy
            have stx := st.trans st2
            have nAρ : ∀ {w' : Wd} {H'' : Hp} {s' : S}, Sim X.K w' s' H'' → A ∈ w'.χ → A ∉ w'.ρ := fun sm hA => (sm.chi A hA).1
            have hl2 : H' A = some (.lst us) := st2.keep A _ hl (nAρ sm hA)
            have hA2 : A ∈ w.χ := hA
            refine tg_ok t d (wipeE e vs) e1 x (L2.wipe σ vs) vs _ r2 ((er1.step stx).wipe vs) za (.inl hv) fun σ2 er2 hw2 => ⟨?_, w, e1, s, er2, sm2, ?_⟩
            · rw [hw2 hv]
              clear q
              induction vs with
              | nil => rfl
              | cons v vs ih =>
                apply List.ext_getElem?
                intro j
                by_cases hj : j ∈ v :: vs
                · have wn : ∀ (σ : St) (vs : List Nat), j ∈ vs → (L2.wipe σ vs)[j]? = if j < σ.length then some none else none := by
                    intro σ vs h
                    induction vs with
                    | nil => cases h
                    | cons u us ih2 =>
                      show ((L2.wipe σ us).set u none)[j]? = _
                      by_cases hu : u = j
                      · subst hu
                        rw [List.getElem?_set]
                        simp [L2.wipe_length]
                      · rw [List.getElem?_set_ne hu]
                        exact ih2 (by rcases List.mem_cons.mp h with y | y; exact absurd y.symm hu; exact y)
                  rw [wn _ _ hj, wn _ _ hj]
                  simp [L2.wipe_length]
                · rw [L2.wipe_out hj]
            · -- the test, then the element
              cases zc : c e1 s with
              | exc x s' => simp only [zc, noX, Res.bind_bad] at q; exact q.elim
              | bad => simp only [zc, noX, Res.bind_bad] at q; exact q.elim
              | ok b s3 =>
                simp only [zc, noX_ok, Res.bind_ok] at q
                intro w3 b' H3 st3 sm3 eb
                cases eb
                have hA3 : A ∈ w3.χ := st3.chiS A hA2
                have hl3 : H3 A = some (.lst us) := st3.keep A _ hl2 (nAρ sm2 hA2)
                have racc3 := (racc.step st2).step st3
                have stx3 := stx.trans st3
                cases b with
                | false =>
                  rw [if_neg Bool.false_ne_true] at q ⊢
                  exact ⟨w3, s3, acc, us, stx3, hA3, sm3, hl3, racc3, Nat.le_succ_of_le hus, by omega, q⟩
                | true =>
                  rw [if_pos rfl] at q ⊢
                  refine ⟨w3, e1, s3, er2.step st3, sm3, ?_⟩
                  cases zf : f e1 s3 with
                  | exc x s' => simp only [zf, noX, Res.bind_bad] at q; exact q.elim
                  | bad => simp only [zf, noX, Res.bind_bad] at q; exact q.elim
                  | ok y s4 =>
                    simp only [zf, noX_ok, Res.bind_ok] at q
                    intro w4 v H4 st4 sm4 r4
                    have hA4 : A ∈ w4.χ := st4.chiS A hA3
                    have hl4 : H4 A = some (.lst us) := st4.keep A _ hl3 (nAρ sm3 hA3)
                    refine ⟨us, hl4, Nat.lt_of_le_of_lt hus (by omega), w4, s4, acc ++ [y], us ++ [v], (stx3.trans st4).grown nA, hA4, sm4.pin hA4 hl4, upd_same, Rs.pin hA4 hl4 ((racc3.step st4).append (.cons r4 .nil)), by simp; exact hus, by omega, ?_⟩
                    have eq : ((compI it t c f m (i + 1) (wipeE e vs) s4).bind fun ys s3 => Res.ok (y :: ys) s3).bind (fun ys s' => mkL k (acc ++ ys) s') =
                        (compI it t c f m (i + 1) (wipeE e vs) s4).bind fun ys s' => mkL k (acc ++ [y] ++ ys) s' := by
                      cases compI it t c f m (i + 1) (wipeE e vs) s4 with
                      | ok ys s5 => simp
                      | exc x s5 => rfl
                      | bad => rfl
                    rw [eq] at q
                    exact q
  · rw [if_neg hz] at q1
    exact q1.elim
theorem pts_yes : PTs X [] (tT X.K X.mg W0 bYes) := ⟨fun pins s σ H Q I ⟨w, e, s', er, sm, q⟩ => pts_nil.run pins s σ H Q I (q w true H Step.refl sm rfl)⟩
theorem re_lc {k : Bool} {ifs : List Expr} {scope : Scope} {own : List (Str × Nat)} (hv : inT (own.map (·.2)) t = true) (hc : X.calm = true) (hN : X.N.Nodup) (hi : RI X W tg iter fi) (ok : BlkOk X.N X.env.scope scope own)
    (hg : ∀ (s : Shared) (H : Hp) (C : Addr) (cl : List (Str × Addr)) (fp : List Addr), PG (X.blk s H scope (compEnvC scope cl C X.env) fp) tg (tgOf X.K t))
    (ht : ∀ (s : Shared) (H : Hp) (C : Addr) (cl : List (Str × Addr)) (fp : List Addr), PTs (X.blk s H scope (compEnvC scope cl C X.env) fp) ifs (tT X.K X.mg W0 c))
    (he : ∀ (s : Shared) (H : Hp) (C : Addr) (cl : List (Str × Addr)) (fp : List Addr), RE (X.blk s H scope (compEnvC scope cl C X.env) fp) W0 elt f) (hs : ∀ x, foldedSetIterable iter X.env x = pure x := by intro _; rfl) :
    RE X W (.ListComp elt [⟨tg, iter, ifs, 0⟩] scope pos) (eLc k fi (own.map (·.2)) t c f) := PE.imp (pe_lc hc hN hi ok hg ht he hs) (comp_imp hv)
theorem rs_setLc {k : Bool} {i : Nat} {y : Str} {py spos : Pos} {ifs : List Expr} {scope : Scope} {own : List (Str × Nat)} (hv : inT (own.map (·.2)) t = true) (hc : X.calm = true) (hN : X.N.Nodup) (hy : X.N[i]? = some y) (hyl : X.env.scope.names.lookup y = some .local)
    (hsw : swapsWith (.ListComp elt [⟨tg, iter, ifs, 0⟩] scope pos) (some (.Name y py)) spos.line X.env = pure true) (hi : RI X W tg iter fi) (ok : BlkOk X.N X.env.scope scope own)
    (hg : ∀ (s : Shared) (H : Hp) (C : Addr) (cl : List (Str × Addr)) (fp : List Addr), PG (X.blk s H scope (compEnvC scope cl C X.env) fp) tg (tgOf X.K t))
    (ht : ∀ (s : Shared) (H : Hp) (C : Addr) (cl : List (Str × Addr)) (fp : List Addr), PTs (X.blk s H scope (compEnvC scope cl C X.env) fp) ifs (tT X.K X.mg W0 c))
    (he : ∀ (s : Shared) (H : Hp) (C : Addr) (cl : List (Str × Addr)) (fp : List Addr), RE (X.blk s H scope (compEnvC scope cl C X.env) fp) W0 elt f) (hs : ∀ x, foldedSetIterable iter X.env x = pure x := by intro _; rfl) :
    RS X W (.Assign [.Name y py] (.ListComp elt [⟨tg, iter, ifs, 0⟩] scope pos) spos) (sSet i (eLc k fi (own.map (·.2)) t c f)) := PS.imp (ps_setLc hc hN hy hyl hsw hi ok hg ht he hs) fun D σ H ⟨w, e, s, er, sm, q⟩ => by
  refine comp_imp (W := W) hv σ H _ ⟨w, e, s, er, sm, (wrS_bind q er).mono fun v H1 ⟨w1, d1, s1, st1, sm1, r1, q1⟩ => q1 w1 H1 Step.refl sm1 _ ((er.step st1).set r1)⟩
end

/-! ### defs -/
/-- the mirror of a def by that of its body; n: how many slots -/
def runD (n : Nat) (g : Es) (ds : List D) (s : S) : Res D := match g (ds.map some ++ List.replicate (n - ds.length) none) s with
  | .ok (.rt d) s' => .ok d s'
  | .ok (.nx _) s' => .ok .non s'
  | .ok (.xc x _) s' => .exc x s'
  | _ => .bad
section
variable {P : Program} {w : World} {K : PySem.W.Frag} {mg : Str → Option Value} {base : Heap}
theorem er_start {wd : Wd} {H : Hp} {ds : List D} {vs : List V} (N : List Str) (r : Rs K wd H ds vs) : ER K wd H (ds.map some ++ List.replicate (N.length - ds.length) none) (L2.start N vs) := by
  refine ⟨by simp [L2.start, r.length], fun i d e => ?_⟩
  by_cases hi : i < ds.length
  · rw [List.getElem?_append_left (by simpa using hi), List.getElem?_map] at e
    cases c : ds[i]? with
    | none => rw [c] at e; cases e
    | some d' =>
      rw [c] at e
      cases e
      obtain ⟨v, e1, e2⟩ := r.get c
      refine ⟨v, ?_, e2⟩
      unfold L2.start
      rw [List.getElem?_append_left (by simp; rw [← r.length]; exact hi), List.getElem?_map, e1]
      rfl
  · rw [List.getElem?_append_right (by simpa using hi), List.getElem?_replicate] at e
    split at e <;> cases e
theorem def_ok {x qual : Str} {st : Stmt} {f : Addr} {fd : FuncData} {N ps : List Str} {k : Nat} {g : Es} (F : Fun K x qual st f fd) (S : FnScope N ps (defScope st))
    (hb : ∀ (cdv : Value) (A : Around) (outer : List Env) (s : Shared) (H : Hp) (E : XK), Room k (A.deeper (envOfC qual (defScope st) s.heap.objs.size f cdv)) →
      RSs (cxOf (L2.CX P w) P w K mg base N qual (defScope st) f cdv A outer s H E) (fun cls d _ H => E cls d H) (defBody st) g) :
    FnOk P w K mg base (L2.CX P w) (k + 1) f fd ps (spOf K mg (runD N.length g) ps.length) := by
  refine F.okX S (fun vs H Q E h => ?_) (fun cdv A outer s H vs Q E hr h => ⟨tS K mg (fun cls d _ H => E cls d H) g, hb cdv A outer s H E hr, ?_⟩)
  · obtain ⟨wd, ds, s, r, sm, hl, _⟩ := h
    rw [← r.length]
    exact hl
  · obtain ⟨wd, ds, s', r, sm, hl, q⟩ := h
    refine ⟨wd, _, s', er_start N r, sm, ?_⟩
    unfold runD at q
    split at q
    · rename_i d s2 e
      rw [e]
      exact fun w' H' st sm v r => q w' v H' st sm r
    · rename_i e2 s2 e
      rw [e]
      exact fun w' H' st sm σ' er => q w' .non H' st sm .non
    · rename_i x e2 s2 e
      rw [e]
      exact fun w' H' st sm σ' cls d er xr => q w' H' cls d st sm xr
    · exact q.elim
end
end Cf

set_option Elab.async false
set_option linter.all false
set_option maxRecDepth 100000
set_option maxHeartbeats 4000000
/-! Cf, part E: operators. -/
namespace Cf
open PySem PySem.Spec L2
open PyProof.Rows hiding St

/-! ### a tuple times one -/
theorem tuple_mul_one (l : Addr) (items : Array Value) (n : Nat) (dd : Option Addr) (sl : Array (Option Value)) (x : Int) (u : Tok) (hx : x = 1) :
    Meets (Builtin.«tuple.__mul__» ⟨[.ref l, .int x u], []⟩) (fun _ R s => s.heap.get? l = some { cls := .type "tuple", dict := dd, data := .seq items n, slots := sl } ∧ R (.ok (.ret (Value.ref l))) s) :=
  .of_wp fun prog w A R s h => by
    obtain ⟨hp, g, d, tk, os⟩ := s
    obtain ⟨hl, h⟩ := h
    have f1 := AutoSeq1.idx_int
    have c0 : (decide (x < -(2 ^ 63)) || decide (x ≥ 2 ^ 63)) = false := by subst hx; rfl
    have c1 : (items.isEmpty || x == 1) = true := by subst hx; simp
    wp_walk using wpAny_loadPart' hl
    repeat (first
      | (refine wpAny_ite_false (decide_eq_false (by rw [c0] <;> exact Bool.false_ne_true)) ?_; wp_walk using wpAny_loadPart' hl)
      | (refine wpAny_ite_true (decide_eq_true c1) ?_; wp_walk using wpAny_loadPart' hl))
    exact ⟨_, rfl, h⟩
def rOneT (K : PySem.W.Frag) : R2 := fun x y H Q => ∃ l xs, x = .ref l ∧ y = .int 1 ∧ SqT K H l xs ∧ Q (.ref l) H
theorem op_oneT {X : Cx} : OpR X (binaryOp .Mult) (rOneT X.K) := by
  intro pins s σ H x y v u Q I rx ry h
  obtain ⟨l, xs, rfl, rfl, hT, q⟩ := h
  cases rx
  obtain ⟨t, rfl⟩ := ry
  obtain ⟨its, r, ⟨⟨cls, dd, data, sl⟩, ho, hc, n, hd⟩, hs⟩ := I.tuple hT
  simp only at hc hd
  subst hc hd
  exact wpAny_binaryOp_repeat_ref (T := "tuple") (U := "int") (by decide) ⟨_, ho, rfl⟩ (fun s' => typeIs_int s' 1 t) noFill_tuple_mul F.fills_int_mul F.slot_int_rmul repeat_tuple F.slot_int_index.lookup
    (call_meets F.slot_int_rmul (typeIs_int s 1 t) F.entry_int_rmul (F.args_int_rmul_2 _ _) (int_rmul_tuple 1 t l its.toArray n dd sl)
      ⟨ho, rfl, ⟨_, ho, rfl⟩, call_meets F.slot_tuple_mul ⟨_, ho, rfl⟩ F.entry_tuple_mul (F.args_tuple_mul_2 _ _) (tuple_mul_one l its.toArray n dd sl 1 t rfl) ⟨ho, ⟨.ref l, H, I, rfl, q⟩⟩⟩)
/-! ### an item of a list, for o[i] op= e -/
theorem get_lst {X : Cx} : PGet X (rIxL X.K) := by
  intro pins s σ H x y v u Q I rx ry h
  obtain ⟨p, xs, i, z, rfl, rfl, hq, he, q⟩ := h
  cases rx
  obtain ⟨t, rfl⟩ := ry
  obtain ⟨its, r, pl, hz⟩ := I.list hq
  obtain ⟨j, h1, h2, h3, h4, h5⟩ := atI_get he
  obtain ⟨uv, ew, rw'⟩ := r.get h2
  have hl := r.length
  have hn := line63
  by_cases h0 : 0 ≤ i
  · have hj : i.toNat = j := by
      rw [seqIndex_of h0 h5] at h1
      exact Option.some.inj h1
    exact wpAny_getItem_list pl.isList h0 (by omega) (by rw [hj]; simpa using ew) ⟨z, H, I, rw', q⟩
  · have hj : (i + (its.toArray.size : Int)).toNat = j := by
      rw [seqIndex_neg (by omega) h4] at h1
      rw [List.size_toArray, ← hl]
      exact Option.some.inj h1
    exact wpAny_getItem_list_neg pl.isList (by omega) (by rw [List.size_toArray] <;> omega) (by omega) (by rw [hj]; simpa using ew) ⟨z, H, I, rw', q⟩

/-! ### primitives -/
def pAdd (c : Bool) (x y : D) (s : S) : Res D := match x, y with
  | .int i, .int j => .ok (.int (i + j)) s
  | .str a, .str b => if a.length + b.length ≤ sizeLine then .ok (.str (a ++ b)) s else .bad
  | .tup a, .tup b => if a.length + b.length ≤ sizeLine then .ok (.tup (a ++ b)) s else .bad
  | x, y => match lsw x s, lsw y s with
    | some a, some b => if a.length + b.length ≤ sizeLine then mkL c (a ++ b) s else .bad
    | _, _ => .bad
def pSub (x y : D) (s : S) : Res D := match x, y with
  | .int i, .int j => .ok (.int (i - j)) s
  | _, _ => .bad
instance (i j : Int) : Decidable (CMul i j) := inferInstanceAs (Decidable (_ ∨ _))
instance (i j : Int) : Decidable (CMulW i j) := inferInstanceAs (Decidable (_ < _))
instance (i j : Int) : Decidable (CDivN i j) := inferInstanceAs (Decidable (_ ∧ _))
instance (i j : Int) : Decidable (CDivW i j) := inferInstanceAs (Decidable (_ ∧ _))
instance (i j : Int) : Decidable (CPow i j) := inferInstanceAs (Decidable (_ ∧ _))
def pMul (c : Bool) (x y : D) (s : S) : Res D := match x, y with
  | .int i, .int j => if CMul i j ∨ CMulW i j then .ok (.int (i * j)) s else .bad
  | .tup a, .int k => if k = 1 then .ok (.tup a) s else if a ≠ [] ∧ 2 ≤ k ∧ k ≤ 1000 ∧ a.length ≤ 1000 then .ok (.tup (List.replicate k.toNat a).flatten) s else .bad
  | x, .int k => match lsw x s with
    | some a => if -(2 ^ 63) ≤ k ∧ k < 2 ^ 63 ∧ a.length * k.toNat ≤ sizeLine then mkL c (List.replicate k.toNat a).flatten s else .bad
    | none => .bad
  | _, _ => .bad
def pDiv (x y : D) (s : S) : Res D := match x, y with
  | .int i, .int j => if CDivN i j ∨ CDivW i j then .ok (.int (i.fdiv j)) s else .bad
  | _, _ => .bad
def pMod (x y : D) (s : S) : Res D := match x, y with
  | .int i, .int j => if j ≠ 0 then .ok (.int (i.fmod j)) s else .bad
  | _, _ => .bad
def pPow (x y : D) (s : S) : Res D := match x, y with
  | .int i, .int j => if CPow i j then .ok (.int (i ^ j.toNat)) s else .bad
  | _, _ => .bad
def pLt (x y : D) (s : S) : Res D := match x, y with
  | .int i, .int j => .ok (.bl (decide (i < j))) s
  | _, _ => .bad
def pLe (x y : D) (s : S) : Res D := match x, y with
  | .int i, .int j => .ok (.bl (decide (i ≤ j))) s
  | _, _ => .bad
def pGt (x y : D) (s : S) : Res D := match x, y with
  | .int i, .int j => .ok (.bl (decide (j < i))) s
  | _, _ => .bad
def pGe (x y : D) (s : S) : Res D := match x, y with
  | .int i, .int j => .ok (.bl (decide (j ≤ i))) s
  | _, _ => .bad
/-- equality of data, at any depth -/
def eqP (x y : D) (s : S) : Option Bool := match toP s 6 x, toP s 6 y with
  | some a, some b => if SeqAt.shaped a = true ∧ SeqAt.shaped b = true then some (PyData.eqv a b) else none
  | _, _ => none
def pEq (x y : D) (s : S) : Res D := match eqP x y s with
  | some b => .ok (.bl b) s
  | none => .bad
def pNe (x y : D) (s : S) : Res D := match eqP x y s with
  | some b => .ok (.bl (!b)) s
  | none => .bad
/-- x in y: flat things in a list or tuple -/
def inP (x y : D) (s : S) : Option Bool := match sqOf y s with
  | some ds => if flatD x = true ∧ ds.all flatD = true then some (ds.any fun z => eqF z x) else none
  | none => none
def pIn (x y : D) (s : S) : Res D := match inP x y s with
  | some b => .ok (.bl b) s
  | none => .bad
def pNi (x y : D) (s : S) : Res D := match inP x y s with
  | some b => .ok (.bl (!b)) s
  | none => .bad
/-- x in y: data of any depth in a list -/
def inDP (x y : D) (s : S) : Option Bool := match toP s 6 x, toP s 6 y with
  | some a, some (.list bs) => if SeqAt.shaped a = true ∧ SeqAt.shaped (.list bs) = true then some (bs.any fun z => PyData.eqv z a) else none
  | _, _ => none
def pInD (x y : D) (s : S) : Res D := match inDP x y s with
  | some b => .ok (.bl b) s
  | none => .bad
def pNiD (x y : D) (s : S) : Res D := match inDP x y s with
  | some b => .ok (.bl (!b)) s
  | none => .bad
def isN : D → Bool
  | .non => true
  | _ => false
def pIs (x y : D) (s : S) : Res D := match y with
  | .non => .ok (.bl (isN x)) s
  | _ => .bad
def pNs (x y : D) (s : S) : Res D := match y with
  | .non => .ok (.bl (!isN x)) s
  | _ => .bad
def pNeg (x : D) (s : S) : Res D := match x with
  | .int i => .ok (.int (-i)) s
  | _ => .bad
def pIx (x y : D) (s : S) : Res D := match y with
  | .int i => match sqOf x s with
    | some ds => match atI ds i with
      | some d => .ok d s
      | none => .bad
    | none => .bad
  | _ => .bad

section
variable {X : Cx}
theorem Rs.at {K : PySem.W.Frag} {w : Wd} {H : Hp} {ds : List D} {vs : List V} {i : Int} {d : D} (h : Rs K w H ds vs) (e : atI ds i = some d) : ∃ v, atI vs i = some v ∧ R K w H d v := by
  unfold atI at e ⊢
  rw [h.length] at e
  cases c : ixN vs.length i with
  | none => rw [c] at e; cases e
  | some j =>
    rw [c] at e
    obtain ⟨v, e1, e2⟩ := h.get (i := j) e
    exact ⟨v, by rw [Option.bind_some]; exact e1, e2⟩
theorem isN_ok {K : PySem.W.Frag} {w : Wd} {H : Hp} {x : D} {v : V} (h : R K w H x v) : decide (v = .non) = isN x := by cases h <;> rfl

def rAddI : R2 := rI0 fun i j => .int (i + j)
def rAddS : R2 := fun x y H Q => ∃ i j, x = .str i ∧ y = .str j ∧ i.length + j.length ≤ sizeLine ∧ Q (.str (i ++ j)) H
theorem o_add : OpR X (binaryOp .Add) (fun x y H Q => rAddI x y H Q ∨ rAddS x y H Q ∨ rCatA X.K x y H Q ∨ rCat x y H Q) := op_add.or (op_add_str.or (op_catA.or op_cat))
theorem p_add {c : Bool} : P2 X (fun x y H Q => rAddI x y H Q ∨ rAddS x y H Q ∨ rCatA X.K x y H Q ∨ rCat x y H Q) (pAdd c) := by
  intro w s H x y v u Q W sm rx ry q
  have gen : ∀ (a b : List D), lsw x s = some a → lsw y s = some b → wr X.K X.mg (TR X.K) w H (if a.length + b.length ≤ sizeLine then mkL c (a ++ b) s else .bad) Q W → rCat v u H Q := by
    intro a b ea eb q
    obtain ⟨p1, vs, rfl, h1, r1⟩ := rx.sw sm ea
    obtain ⟨p2, us, rfl, h2, r2⟩ := ry.sw sm eb
    split at q
    · rename_i hl
      exact ⟨_, _, _, _, rfl, rfl, h1, h2, by rw [← r1.length, ← r2.length]; exact hl, wr_newLst q sm (r1.append r2)⟩
    · exact q.elim
  unfold pAdd at q
  split at q
  · cases rx; cases ry; exact .inl ⟨_, _, rfl, rfl, wr_ok q sm (.int _)⟩
  · cases rx; cases ry
    split at q
    · rename_i hl
      exact .inr (.inl ⟨_, _, rfl, rfl, hl, wr_ok q sm (.str _)⟩)
    · exact q.elim
  · rename_i a b
    cases rx with
    | tup n1 h1 r1 =>
      cases ry with
      | tup n2 h2 r2 =>
        split at q
        · rename_i hl
          refine .inr (.inr (.inl ⟨_, _, _, _, rfl, rfl, .of h1, .of h2, by rw [← r1.length, ← r2.length]; exact hl, fun e => ?_, fun _ e => ?_, fun _ _ => wr_newTup q sm (r1.append r2)⟩))
          · subst e
            cases r1
            exact wr_ok q sm (.tup n2 h2 r2)
          · subst e
            cases r2
            rw [List.append_nil] at q
            exact wr_ok q sm (.tup n1 h1 r1)
        · exact q.elim
  · split at q
    · rename_i a b ea eb
      exact .inr (.inr (.inr (gen a b ea eb q)))
    · exact q.elim
theorem p_sub : P2 X (rI0 fun i j => .int (i - j)) pSub := by
  intro w s H x y v u Q W sm rx ry q
  unfold pSub at q
  split at q
  · cases rx; cases ry; exact ⟨_, _, rfl, rfl, wr_ok q sm (.int _)⟩
  · exact q.elim
def rMul (K : PySem.W.Frag) : R2 := fun x y H Q => (rI CMul fun i j => .int (i * j)) x y H Q ∨ (rI CMulW fun i j => .int (i * j)) x y H Q ∨ rOneT K x y H Q ∨ rRepT K x y H Q ∨ rRep x y H Q
theorem o_mul : OpR X (binaryOp .Mult) (rMul X.K) := op_mul.or (op_mulW.or (op_oneT.or (op_repT.or op_rep)))
theorem p_mul {c : Bool} : P2 X (rMul X.K) (pMul c) := by
  intro w s H x y v u Q W sm rx ry q
  unfold pMul at q
  split at q
  · cases rx; cases ry
    split at q
    · rename_i hl
      rcases hl with hl | hl
      · exact .inl ⟨_, _, rfl, rfl, hl, wr_ok q sm (.int _)⟩
      · exact .inr (.inl ⟨_, _, rfl, rfl, hl, wr_ok q sm (.int _)⟩)
    · exact q.elim
  · rename_i a k
    cases ry
    cases rx with
    | tup n1 h1 r1 =>
      split at q
      · rename_i hk
        subst hk
        exact .inr (.inr (.inl ⟨_, _, rfl, rfl, .of h1, wr_ok q sm (.tup n1 h1 r1)⟩))
      · split at q
        · rename_i hk
          obtain ⟨k1, k2, k3, k4⟩ := hk
          refine .inr (.inr (.inr (.inl ⟨_, _, _, rfl, rfl, .of h1, fun e => k1 ?_, k2, k3, by rw [← r1.length]; exact k4, wr_newTup q sm (r1.rep _)⟩)))
          subst e
          cases r1
          rfl
        · exact q.elim
  · rename_i k _ _
    cases ry
    split at q
    · rename_i a ea
      obtain ⟨p1, vs, rfl, h1, r1⟩ := rx.sw sm ea
      split at q
      · rename_i hk
        exact .inr (.inr (.inr (.inr ⟨_, _, _, rfl, rfl, h1, hk.1, hk.2.1, by rw [← r1.length]; exact hk.2.2, wr_newLst q sm (r1.rep _)⟩)))
      · exact q.elim
    · exact q.elim
  · exact q.elim
def rDiv : R2 := fun x y H Q => (rI CDivN fun i j => .int (i.fdiv j)) x y H Q ∨ (rI CDivW fun i j => .int (i / j)) x y H Q
theorem o_div : OpR X (binaryOp .FloorDiv) rDiv := op_fdivN.or op_fdivW
theorem p_div : P2 X rDiv pDiv := by
  intro w s H x y v u Q W sm rx ry q
  unfold pDiv at q
  split at q
  · rename_i i j
    cases rx; cases ry
    split at q
    · rename_i hl
      rcases hl with hl | hl
      · exact .inl ⟨_, _, rfl, rfl, hl, wr_ok q sm (.int _)⟩
      · rw [Int.fdiv_eq_ediv_of_nonneg i (Int.le_of_lt hl.1)] at q
        exact .inr ⟨_, _, rfl, rfl, hl, wr_ok q sm (.int _)⟩
    · exact q.elim
  · exact q.elim
theorem p_mod : P2 X (rI (fun _ j => j ≠ 0) fun i j => .int (i.fmod j)) pMod := by
  intro w s H x y v u Q W sm rx ry q
  unfold pMod at q
  split at q
  · cases rx; cases ry
    split at q
    · rename_i hl
      exact ⟨_, _, rfl, rfl, hl, wr_ok q sm (.int _)⟩
    · exact q.elim
  · exact q.elim
theorem p_pow : P2 X (rI CPow fun i j => .int (i ^ j.toNat)) pPow := by
  intro w s H x y v u Q W sm rx ry q
  unfold pPow at q
  split at q
  · cases rx; cases ry
    split at q
    · rename_i hl
      exact ⟨_, _, rfl, rfl, hl, wr_ok q sm (.int _)⟩
    · exact q.elim
  · exact q.elim
theorem p_lt : P2 X (rI0 fun i j => .bl (decide (i < j))) pLt := by
  intro w s H x y v u Q W sm rx ry q
  unfold pLt at q
  split at q
  · cases rx; cases ry; exact ⟨_, _, rfl, rfl, wr_ok q sm (.bl _)⟩
  · exact q.elim
theorem p_le : P2 X (rI0 fun i j => .bl (decide (i ≤ j))) pLe := by
  intro w s H x y v u Q W sm rx ry q
  unfold pLe at q
  split at q
  · cases rx; cases ry; exact ⟨_, _, rfl, rfl, wr_ok q sm (.bl _)⟩
  · exact q.elim
theorem p_gt : P2 X (rI0 fun i j => .bl (decide (j < i))) pGt := by
  intro w s H x y v u Q W sm rx ry q
  unfold pGt at q
  split at q
  · cases rx; cases ry; exact ⟨_, _, rfl, rfl, wr_ok q sm (.bl _)⟩
  · exact q.elim
theorem p_ge : P2 X (rI0 fun i j => .bl (decide (j ≤ i))) pGe := by
  intro w s H x y v u Q W sm rx ry q
  unfold pGe at q
  split at q
  · cases rx; cases ry; exact ⟨_, _, rfl, rfl, wr_ok q sm (.bl _)⟩
  · exact q.elim
theorem eqP_ok {K : PySem.W.Frag} {w : Wd} {H : Hp} {s : S} {x y : D} {v u : V} {b : Bool} (sm : Sim K w s H) (rx : R K w H x v) (ry : R K w H y u) (e : eqP x y s = some b) :
    ∃ d z, Dp K H v d ∧ Dp K H u z ∧ SeqAt.shaped d = true ∧ SeqAt.shaped z = true ∧ b = PyData.eqv d z := by
  unfold eqP at e
  split at e
  · rename_i a c ea ec
    split at e
    · rename_i hs
      cases e
      exact ⟨a, c, toP_ok sm 6 x v a rx ea, toP_ok sm 6 y u c ry ec, hs.1, hs.2, rfl⟩
    · cases e
  · cases e
theorem p_eq : P2 X (rEqD X.K) pEq := by
  intro w s H x y v u Q W sm rx ry q
  unfold pEq at q
  split at q
  · rename_i b e
    obtain ⟨d, z, h1, h2, h3, h4, rfl⟩ := eqP_ok sm rx ry e
    exact ⟨d, z, h1, h2, h3, h4, wr_ok q sm (.bl _)⟩
  · exact q.elim
theorem p_ne : P2 X (rNeD X.K) pNe := by
  intro w s H x y v u Q W sm rx ry q
  unfold pNe at q
  split at q
  · rename_i b e
    obtain ⟨d, z, h1, h2, h3, h4, rfl⟩ := eqP_ok sm rx ry e
    exact ⟨d, z, h1, h2, h3, h4, wr_ok q sm (.bl _)⟩
  · exact q.elim
theorem inP_ok {K : PySem.W.Frag} {w : Wd} {H : Hp} {s : S} {x y : D} {v u : V} {b : Bool} (sm : Sim K w s H) (rx : R K w H x v) (ry : R K w H y u) (e : inP x y s = some b) :
    ∃ p xs, u = .ref p ∧ (SqL K H p xs ∨ SqT K H p xs) ∧ flatV v = true ∧ xs.all flatV = true ∧ b = inV v xs := by
  unfold inP at e
  split at e
  · rename_i ds hds
    split at e
    · rename_i hs
      cases e
      obtain ⟨p, vs, e1, e2, e3⟩ := ry.sqa sm hds
      exact ⟨p, vs, e1, e2, flat_ok rx hs.1, flats_ok e3 hs.2, (inF_ok e3 rx hs.2 hs.1).symm⟩
    · cases e
  · cases e
theorem p_in : P2 X (rIn X.K false) pIn := by
  intro w s H x y v u Q W sm rx ry q
  unfold pIn at q
  split at q
  · rename_i b e
    obtain ⟨p, xs, h1, h2, h3, h4, rfl⟩ := inP_ok sm rx ry e
    exact ⟨p, xs, h1, h2, h3, h4, wr_ok q sm (.bl _)⟩
  · exact q.elim
theorem p_ni : P2 X (rIn X.K true) pNi := by
  intro w s H x y v u Q W sm rx ry q
  unfold pNi at q
  split at q
  · rename_i b e
    obtain ⟨p, xs, h1, h2, h3, h4, rfl⟩ := inP_ok sm rx ry e
    exact ⟨p, xs, h1, h2, h3, h4, wr_ok q sm (.bl _)⟩
  · exact q.elim
theorem inDP_ok {K : PySem.W.Frag} {w : Wd} {H : Hp} {s : S} {x y : D} {v u : V} {b : Bool} (sm : Sim K w s H) (rx : R K w H x v) (ry : R K w H y u) (e : inDP x y s = some b) :
    ∃ d ds, Dp K H v d ∧ Dp K H u (.list ds) ∧ SeqAt.shaped d = true ∧ SeqAt.shaped (.list ds) = true ∧ b = ds.any fun z => PyData.eqv z d := by
  unfold inDP at e
  split at e
  · rename_i a bs ea eb
    split at e
    · rename_i hs
      cases e
      exact ⟨a, bs, toP_ok sm 6 x v _ rx ea, toP_ok sm 6 y u _ ry eb, hs.1, hs.2, rfl⟩
    · cases e
  · cases e
theorem p_inD : P2 X (rInD X.K) pInD := by
  intro w s H x y v u Q W sm rx ry q
  unfold pInD at q
  split at q
  · rename_i b e
    obtain ⟨p, xs, h1, h2, h3, h4, rfl⟩ := inDP_ok sm rx ry e
    exact ⟨p, xs, h1, h2, h3, h4, wr_ok q sm (.bl _)⟩
  · exact q.elim
theorem p_niD : P2 X (rNotInD X.K) pNiD := by
  intro w s H x y v u Q W sm rx ry q
  unfold pNiD at q
  split at q
  · rename_i b e
    obtain ⟨p, xs, h1, h2, h3, h4, rfl⟩ := inDP_ok sm rx ry e
    exact ⟨p, xs, h1, h2, h3, h4, wr_ok q sm (.bl _)⟩
  · exact q.elim
theorem p_is : P2 X (fun x y H Q => y = .non ∧ Q (.bl (decide (x = .non))) H) pIs := by
  intro w s H x y v u Q W sm rx ry q
  unfold pIs at q
  split at q
  · cases ry; exact ⟨rfl, by rw [isN_ok rx]; exact wr_ok q sm (.bl _)⟩
  · exact q.elim
theorem p_ns : P2 X (fun x y H Q => y = .non ∧ Q (.bl (!decide (x = .non))) H) pNs := by
  intro w s H x y v u Q W sm rx ry q
  unfold pNs at q
  split at q
  · cases ry; exact ⟨rfl, by rw [isN_ok rx]; exact wr_ok q sm (.bl _)⟩
  · exact q.elim
theorem p_neg : P1 X (rU fun i => .int (-i)) pNeg := by
  intro w s H x v Q W sm rx q
  unfold pNeg at q
  split at q
  · cases rx; exact ⟨_, rfl, wr_ok q sm (.int _)⟩
  · exact q.elim
theorem p_ix : P2 X (rIx X.K) pIx := by
  intro w s H x y v u Q W sm rx ry q
  unfold pIx at q
  split at q
  · cases ry
    split at q
    · rename_i ds hds
      split at q
      · rename_i d hd
        obtain ⟨p, vs, rfl, e2, e3⟩ := rx.sqa sm hds
        obtain ⟨z, e4, e5⟩ := e3.at hd
        rcases e2 with e2 | e2
        · exact .inl ⟨p, vs, _, z, rfl, rfl, e2, e4, wr_ok q sm e5⟩
        · exact .inr (.inl ⟨p, vs, _, z, rfl, rfl, e2, e4, wr_ok q sm e5⟩)
      · exact q.elim
    · exact q.elim
  · exact q.elim
variable {W : WX} {a b c : Expr} {fa fb fc : Ev} {pos : Pos}
theorem re_ix (ha : RE X W a fa) (hb : RE X W b fb) (hs : PlainIx b) : RE X W (.Subscript a b pos) (e2 pIx fa fb) := PE.imp (pe_ix ix_seq ha hb hs) (imp2 p_ix)

/-! ### slices -/
abbrev RO (X : Cx) (W : WX) (e : Option Expr) (f : En → S → Res (Option Int)) : Prop := PO X e (tO X.K X.mg W f)
def oNo : En → S → Res (Option Int) := fun _ s => .ok none s
def oI (f : Ev) : En → S → Res (Option Int) := fun e s => (f e s).bind fun d s => match d with
  | .int i => .ok (some i) s
  | _ => .bad
def cutD (xs : List D) (lo hi : Option Int) : List D := (xs.drop (HT.sIx xs.length 0 lo)).take (HT.sIx xs.length xs.length hi - HT.sIx xs.length 0 lo)
def pSl (k : Bool) (x : D) (lo hi : Option Int) (s : S) : Res D := match x with
  | .tup xs => .ok (.tup (cutD xs lo hi)) s
  | x => match lsq x s with
    | some xs => mkL k (cutD xs lo hi) s
    | none => .bad
def eSl (k : Bool) (f : Ev) (l h : En → S → Res (Option Int)) : Ev := fun e s => (f e s).bind fun d s => (l e s).bind fun lo s => (h e s).bind fun hi s => pSl k d lo hi s
theorem ro_none : RO X W none oNo := PO.imp po_none fun σ H Q ⟨w, e, s, er, sm, q⟩ => q w none H Step.refl sm rfl
theorem ro_some (ha : RE X W a fa) : RO X W (some a) (oI fa) := PO.imp (po_some ha) fun σ H Q ⟨w, e, s, er, sm, q⟩ =>
  ⟨w, e, s, er, sm, (wr_bind q).mono fun v H1 ⟨w1, d1, s1, st1, sm1, r1, q1⟩ => by
    cases d1 with
    | int i => cases r1; exact ⟨i, rfl, q1 w1 (some i) H1 Step.refl sm1 rfl⟩
    | _ => exact q1.elim⟩
theorem Rs.cut {K : PySem.W.Frag} {w : Wd} {H : Hp} {ds : List D} {vs : List V} (h : Rs K w H ds vs) (lo hi : Option Int) : Rs K w H (cutD ds lo hi) (cutV vs lo hi) := by
  unfold cutD cutV
  rw [h.length]
  exact (h.drop _).take _
theorem cut_whole {K : PySem.W.Frag} {w : Wd} {H : Hp} {ds : List D} {vs : List V} {lo hi : Option Int} (h : Rs K w H ds vs) (hw : HT.sIx vs.length 0 lo = 0 ∧ HT.sIx vs.length vs.length hi = vs.length) : cutD ds lo hi = ds := by
  unfold cutD
  rw [h.length, hw.1, hw.2, ← h.length]
  simp
theorem re_sl {k : Bool} {lo hi : Option Expr} {l h : En → S → Res (Option Int)} {p2 : Pos} (ha : RE X W a fa) (hl : RO X W lo l) (hh : RO X W hi h) : RE X W (.Subscript a (.Slice lo hi none p2) pos) (eSl k fa l h) :=
  PE.imp (pe_slice (sl_tupA.or sl_list) ha hl hh) fun σ H Q ⟨w, e, s, er, sm, q⟩ =>
  ⟨w, e, s, er, sm, (wr_bind q).mono fun v H1 ⟨w1, d1, s1, st1, sm1, r1, q1⟩ => ⟨w1, e, s1, er.step st1, sm1, (wr_bind (T := TOI) q1).mono fun lo H2 ⟨w2, d2, s2, st2, sm2, r2, q2⟩ => ⟨w2, e, s2, (er.step st1).step st2, sm2, (wr_bind (T := TOI) q2).mono fun hi H3 ⟨w3, d3, s3, st3, sm3, r3, q3⟩ => by
    cases r2
    cases r3
    have rv := (r1.step st2).step st3
    unfold pSl at q3
    split at q3
    · rename_i xs
      cases rv with
      | @tup a ds vs n hh rs =>
        refine .inl ⟨a, vs, rfl, .of hh, fun hw => ?_, fun _ => wr_newTup q3 sm3 (rs.cut lo hi)⟩
        rw [cut_whole rs hw] at q3
        exact wr_ok q3 sm3 (.tup n hh rs)
    · split at q3
      · rename_i xs hxs
        obtain ⟨a, vs, rfl, h1, rs⟩ := rv.sq sm3 hxs
        exact .inr ⟨a, vs, rfl, h1, wr_newLst q3 sm3 (rs.cut lo hi)⟩
      · exact q3.elim⟩⟩⟩
end
end Cf

set_option Elab.async false
set_option linter.all false
set_option maxRecDepth 100000
set_option maxHeartbeats 4000000
/-! Cf, part F: calls of built-ins, methods, enumerate and zip, stores at places. -/
namespace Cf
open PySem PySem.Spec L2
open PyProof.Rows hiding St

/-! ### enumerate of a tuple -/
set_option maxHeartbeats 1000000 in
theorem enum_new1 {v : Value} {o : Obj} {H : Heap → Prop} (B : Begins v o H) :
    Meets (Builtin.«enumerate.__new__» ⟨[.type "enumerate", v], []⟩) (fun _ R s => H s.heap ∧
      R (.ok (.ret (.ref (s.heap.push o).objs.size))) { s with heap := (s.heap.push o).push { cls := .type "enumerate", data := .fields #[.none, .bool false, .ref s.heap.objs.size, rawInt 0, .none, .none] } }) :=
  .of_wp fun prog w A R s h => by
    obtain ⟨hp, g, d, tk, os⟩ := s
    obtain ⟨h1, h⟩ := h
    have hsub := sub_enumerate
    have begun : ∀ {A' : Around} {E : Value → Shared → Prop} {Q : Value → Shared → Prop}, Q (.ref hp.objs.size) ⟨hp.push o, g, d, tk, os⟩ → wpAny (model prog w) A' (pyIter v) Q E ⟨hp, g, d, tk, os⟩ :=
      fun z => B.iter prog w _ _ ⟨hp, g, d, tk, os⟩ _ h1 z
    wp_walk using begun
    refine wpAny_stack_any fun st => wpAny_pure ?_
    split
    · rename_i c _ _ _ _ _
      cases (c == Value.type "enumerate")
      · wp_walk using begun
        exact ⟨_, rfl, h⟩
      · wp_walk using begun
        exact ⟨_, rfl, h⟩
    · wp_walk using begun
      exact ⟨_, rfl, h⟩
theorem call_enum1 {prog : Program} {w : World} {A : Around} {E : Value → Shared → Prop} {s : Shared} {v : Value} {o : Obj} {H : Heap → Prop} {Q : Value → Shared → Prop} (B : Begins v o H) (h1 : H s.heap)
    (h : ∀ h', IsEnum h' (s.heap.objs.size + 1) s.heap.objs.size 0 .none → h'.get? s.heap.objs.size = some o →
      (∀ b o, s.heap.get? b = some o → h'.get? b = some o) → Q (.ref (s.heap.objs.size + 1)) { s with heap := h' }) :
    wpAny (model prog w) A (call (.type "enumerate") [v]) Q E s := by
  refine callType_new F.called_enumerate (by decide) (F.typeCall_enumerate_1 _) (F.newCall_enumerate_1 _) (fun obj => F.args_object_init_2 obj _) F.entry_enumerate_new (enum_new1 B) ⟨h1, ?_⟩
  have hz : (s.heap.push o).objs.size = s.heap.objs.size + 1 := Heap.size_push ..
  show _ ∧ _
  rw [hz]
  have he : IsEnum ((s.heap.push o).push { cls := .type "enumerate", data := .fields #[.none, .bool false, .ref s.heap.objs.size, rawInt 0, .none, .none] }) (s.heap.objs.size + 1) s.heap.objs.size 0 .none := by
    have e := Heap.get?_push_size (s.heap.push o) (o := { cls := .type "enumerate", data := .fields #[.none, .bool false, .ref s.heap.objs.size, rawInt 0, .none, .none] }) rfl
    rw [hz] at e
    exact e
  exact ⟨⟨_, he, rfl⟩, h _ he (Heap.get?_push_of_some _ (Heap.get?_push_size _ B.free)) fun b o x => Heap.get?_push_of_some _ (Heap.get?_push_of_some _ x)⟩
/-- the tuple at a, each item in a new pair -/
def IteT (K : PySem.W.Frag) (a : Addr) : It :=
  ⟨fun i H => ∃ (xs : List V) (x : V), SqT K H a xs ∧ xs[i]? = some x, fun i H v H' => ∃ T x, v = .ref T ∧ H T = none ∧ H' = upd H T (.tup [.int (i : Nat), x]) ∧ ∀ xs, SqT K H a xs → xs[i]? = some x, fun i H => ∃ xs : List V, SqT K H a xs ∧ xs.length ≤ i⟩
theorem turn_enumT {P : Program} {w : World} {K : PySem.W.Frag} {elts : List Expr} {kk : Nat} {tpos : Pos} (a e it : Addr) (hea : e ≠ a) (hia : a ≠ it) :
    Turn P w K (.Tuple elts kk tpos) (IteT K a) [e, it] e (fun i h => (∃ old, IsEnum h e it ((i : Nat) : Int) old) ∧ h.IsTupleIter it a i ∧ e ≠ it) where
  mem := by simp
  obj := fun i h st b hb => by
    obtain ⟨⟨old, he⟩, ⟨o, ho, hc, hd⟩, _⟩ := st
    have e' : b = e ∨ b = it := by simpa using hb
    rcases e' with z | z
    · rw [z]; exact ⟨_, he, fun v q => nomatch q⟩
    · rw [z]; exact ⟨o, ho, fun v q => by rw [hd] at q; cases q⟩
  keep := fun i h h' st k => by
    obtain ⟨⟨old, he⟩, hi, hne⟩ := st
    exact ⟨⟨old, k e (by simp) _ he⟩, hi.at fun o q => k it (by simp) o q, hne⟩
  item := by
    intro X hP hw hK hc i pins s σ H E I hf st hg
    subst hP hw hK
    obtain ⟨⟨old, he⟩, hit, hne⟩ := st
    obtain ⟨xs, x, hq, hx⟩ := hg
    obtain ⟨its, rv, p, hz⟩ := I.tuple hq
    obtain ⟨u, hu, ru⟩ := rv.get hx
    have hlt : i < its.toArray.size := by
      have := (List.getElem?_eq_some_iff.mp hu).1
      simpa using this
    have hel : e < s.heap.objs.size := Heap.lt_size he
    have hil : it < s.heap.objs.size := by obtain ⟨_, q, _⟩ := hit; exact Heap.lt_size q
    have DR := Draws.tuple (prog := X.prog) (w := X.w) (A := X.A.in1) (I.ok.hd hc) it a hia its.toArray
    have pt : s.heap.IsTuple a its.toArray := p
    refine wpAny_pyNext_enum_itemD DR he ⟨hit, pt⟩ hlt hne (by simp; exact ⟨hne, hea⟩) fun x' h' tk hx' ho hst hT hsz hk => ?_
    have exu : x' = u := by
      have h1 : its.toArray[i]? = some x' := hx'
      have h2 : its[i]? = some x' := by simpa using h1
      rw [hu] at h2
      exact (Option.some.inj h2).symm
    subst exu
    refine ⟨_, rfl, wpAny_letOwnedTupleGo_enum (s := { s with heap := h', toks := tk + 1 }) ho fun h'' he' sb => ?_⟩
    have hT2 : h''.get? s.heap.objs.size = some { cls := .type "tuple", data := .seq #[.int i tk, x'] } := (sb.2 _ (Nat.ne_of_gt hel)).trans hT
    have new : ObjOk X.prog X.w (upd H s.heap.objs.size (.tup [.int (i : Nat), x])) h'' s.heap.objs.size (.tup [.int (i : Nat), x]) :=
      ⟨by show 2 ≤ sizeLine; decide, [.int i tk, x'], .cons ⟨_, rfl⟩ (.cons ru .nil), ⟨_, hT2, rfl, _, rfl⟩⟩
    have I1 : Inv X pins σ (upd H s.heap.objs.size (.tup [.int (i : Nat), x])) { s with heap := h'', toks := tk + 1 } :=
      I.turnedNew (ch := [e, it]) (fun b ob hb q => (sb.2 b (fun z => hb (by simp [z]))).trans (hk b ob (fun z => hb (by simp [z])) (fun z => hb (by simp [z])) q)) hf (Nat.le_refl _) new
    refine ⟨.ref s.heap.objs.size, _, I1, rfl, ⟨_, x, rfl, I.hok.fresh (Nat.le_refl _), rfl, fun ys hy => by rw [I.tuple_inj hy hq]; exact hx⟩, ⟨⟨x', ?_⟩, hst.1.at fun o q => (sb.2 it (Ne.symm hne)).trans q, hne⟩, fun b hb => ?_⟩
    · have e1 : ((i + 1 : Nat) : Int) = (i : Int) + 1 := by omega
      rw [e1]
      exact he'
    · have hb' : b < s.heap.objs.size := by
        have e' : b = e ∨ b = it := by simpa using hb
        rcases e' with z | z
        · rw [z]; exact hel
        · rw [z]; exact hil
      rw [upd_ne (Nat.ne_of_lt hb')]
      exact (hf b hb).1
  done := by
    intro X hP hw hK hc i pins s σ H E I hf st hg
    subst hP hw hK
    obtain ⟨⟨old, he⟩, hit, hne⟩ := st
    obtain ⟨xs, hq, hx⟩ := hg
    obtain ⟨its, rv, p, hz⟩ := I.tuple hq
    obtain ⟨f0, f1, f2, f3, f4, f5⟩ := hf it (by simp)
    have hl := rv.length
    have hii : its.toArray[i]? = none := by
      rw [Array.getElem?_eq_none_iff]
      simp
      omega
    have hT : s.TypeIs (.ref e) "enumerate" := ⟨_, he, rfl⟩
    refine thn (Q := fun r s' => r = none ∧ ∃ h', Heap.ExtBut it s.heap h' ∧ s' = { s with heap := h' }) ?_ fun r s' ⟨e1, h', eb, e2⟩ => by subst e2; exact ⟨e1, I.turned (t' := s.toks) (fun b o hb q => eb b o hb q) f0 f1 f3 f4 f5⟩
    unfold pyNext
    refine wpAny_bind (wpAny_attempt (wpAny_callSpecial?_slot (name := Str.ofString "__next__") hT F.slot_enumerate_next
      (wpAny_call_entry F.slot_enumerate_next hT F.entry_enumerate_next ?_ (F.args_enumerate_next_1 _))))
    show wpAny _ _ (field (.ref e) 2 >>= _) _ _ _
    refine wpAny_bind (wpAny_field he rfl (x := .ref it) rfl ?_)
    refine wpAny_bind (wpAny_nextOf_tuple_end (A := X.A.in1) (I.ok.hd hc) hit p hii fun h' x he' hx' => ?_)
    obtain ⟨o, ho, hc'⟩ := hx'
    refine wpAny_bind (wpAny_isInstance (T := "StopIteration") (b := true) ⟨o, ho, hc'⟩ isSubtype_stop ?_)
    exact wpAny_pure ⟨rfl, h', he', rfl⟩
  self := fun A i s Q E st h => by
    obtain ⟨⟨_, he⟩, _⟩ := st
    exact wpAny_pyIter_enum he h
def iEnumT (K : PySem.W.Frag) (ta : TA) : TI := fun σ H R => ta σ H fun vs H1 => ∃ a xs, vs = [.ref a] ∧ ((SqL K H1 a xs ∧ R (Ite K a) H1) ∨ (SqT K H1 a xs ∧ R (IteT K a) H1))
theorem pi_enumT {X : Cx} {e : Expr} {ta : TA} {p pos tpos : Pos} {elts : List Expr} {kk : Nat} (hg : Gl X "enumerate") (hm : X.mg "enumerate" = none) (ha : PA X [e] ta) (hs : starEach [e] X.env = [(false, eval e X.env)] := by rfl) :
    PI X (.Tuple elts kk tpos) (.Call (.Name "enumerate" p) [e] [] pos) (iEnumT X.K ta) := by
  refine ⟨fun pins s σ H R I h => ?_⟩
  refine Call_ (ld_blt I hg hm boot_enumerate (PyProof.Rows.callWith_type1 (thn (ha.run pos pins s σ H _ I h) fun us s1 ⟨vs, H1, I1, r1, q1⟩ => ?_) hs rfl))
  obtain ⟨a, xs, ex, q⟩ := q1
  subst ex
  cases r1 with
  | cons r rr =>
    cases rr
    cases r
    rcases q with ⟨hq, q⟩ | ⟨hq, q⟩
    · obtain ⟨its, rv, p', hz⟩ := I1.list hq
      refine call_enumerate_list p'.isList fun h' he hit hsz hk => wpAny_pyIter_enum he ?_
      have I2 : Inv X pins σ H1 { s1 with heap := h' } := I1.kept (t' := s1.toks) hk
      refine ⟨s1.heap.objs.size + 1, [s1.heap.objs.size + 1, s1.heap.objs.size], _, _, H1, rfl, I2, turn_enum a (s1.heap.objs.size + 1) s1.heap.objs.size, ⟨⟨.none, he⟩, hit, Nat.succ_ne_self _⟩, fun b hb => ?_, q⟩
      have hle : s1.heap.objs.size ≤ b := by
        have e' : b = s1.heap.objs.size + 1 ∨ b = s1.heap.objs.size := by simpa using hb
        rcases e' with z | z
        · rw [z]; exact Nat.le_add_right _ _
        · rw [z]; exact Nat.le_refl _
      exact I1.fpOk hle (I1.hok.fresh hle)
    · obtain ⟨its, rv, p', hz⟩ := I1.tuple hq
      have hal : a < s1.heap.objs.size := p'.lt
      refine call_enum1 (begins_tuple a its.toArray) p' fun h' he hit hk => wpAny_pyIter_enum he ?_
      have I2 : Inv X pins σ H1 { s1 with heap := h' } := I1.kept (t' := s1.toks) hk
      refine ⟨s1.heap.objs.size + 1, [s1.heap.objs.size + 1, s1.heap.objs.size], _, _, H1, rfl, I2, turn_enumT a (s1.heap.objs.size + 1) s1.heap.objs.size (Nat.ne_of_gt (Nat.lt_succ_of_lt hal)) (Nat.ne_of_lt hal), ⟨⟨.none, he⟩, ⟨_, hit, rfl, rfl⟩, Nat.succ_ne_self _⟩, fun b hb => ?_, q⟩
      have hle : s1.heap.objs.size ≤ b := by
        have e' : b = s1.heap.objs.size + 1 ∨ b = s1.heap.objs.size := by simpa using hb
        rcases e' with z | z
        · rw [z]; exact Nat.le_add_right _ _
        · rw [z]; exact Nat.le_refl _
      exact I1.fpOk hle (I1.hok.fresh hle)
end Cf

set_option Elab.async false
set_option linter.all false
set_option maxRecDepth 100000
set_option maxHeartbeats 4000000
/-! Cf, part G: built-ins, methods, stores at places, walks of pairs. -/
namespace Cf
open PySem PySem.Spec L2
open PyProof.Rows hiding St

/-! ### walks of pairs -/
def pEnum (xs : List D) (s : S) : Res Wlk := match xs with
  | [x] => match x with
    | .tup ds => .ok (.seq ((List.range ds.length).zipWith (fun (i : Nat) d => D.tup [.int (i : Int), d]) ds)) s
    | .lst ds => .ok (.seq ((List.range ds.length).zipWith (fun (i : Nat) d => D.tup [.int (i : Int), d]) ds)) s
    | .fz ds => .ok (.seq ((List.range ds.length).zipWith (fun (i : Nat) d => D.tup [.int (i : Int), d]) ds)) s
    | .ref n => match s[n]? with
      | some xs => .ok (.enu n xs.length) s
      | none => .bad
    | _ => .bad
  | _ => .bad
def pZip (xs : List D) (s : S) : Res Wlk := match xs with
  | [.tup a, .tup b] => .ok (.seq (List.zipWith (fun x y => D.tup [x, y]) a b)) s
  | [.lst a, .lst b] => .ok (.seq (List.zipWith (fun x y => D.tup [x, y]) a b)) s
  | _ => .bad
section
variable {K : PySem.W.Frag} {w : Wd} {H : Hp} {s : S}
theorem zipR_get {ds : List D} {i : Nat} {d : D} (e : ((List.range ds.length).zipWith (fun (i : Nat) d => D.tup [.int (i : Int), d]) ds)[i]? = some d) : ∃ x, ds[i]? = some x ∧ d = .tup [.int (i : Int), x] := by
  rw [List.getElem?_zipWith] at e
  cases c : ds[i]? with
  | none => rw [c] at e; split at e <;> simp_all
  | some x =>
    have hi := (List.getElem?_eq_some_iff.mp c).1
    rw [c, List.getElem?_range hi] at e
    exact ⟨x, rfl, (Option.some.inj e).symm⟩
theorem zipR_end {ds : List D} {i : Nat} (e : ((List.range ds.length).zipWith (fun (i : Nat) d => D.tup [.int (i : Int), d]) ds)[i]? = none) : ds.length ≤ i := by
  have := List.getElem?_eq_none_iff.mp e
  simpa using this
theorem zipD_get {a b : List D} {i : Nat} {d : D} (e : (List.zipWith (fun x y => D.tup [x, y]) a b)[i]? = some d) : ∃ x y, a[i]? = some x ∧ b[i]? = some y ∧ d = .tup [x, y] := by
  rw [List.getElem?_zipWith] at e
  cases c : a[i]? with
  | none => rw [c] at e; simp at e
  | some x =>
    cases c2 : b[i]? with
    | none => rw [c, c2] at e; simp at e
    | some y =>
      rw [c, c2] at e
      exact ⟨x, y, rfl, rfl, (Option.some.inj e).symm⟩
theorem zipD_end {a b : List D} {i : Nat} (e : (List.zipWith (fun x y => D.tup [x, y]) a b)[i]? = none) : a.length ≤ i ∨ b.length ≤ i := by
  have h := List.getElem?_eq_none_iff.mp e
  rw [List.length_zipWith] at h
  omega
theorem R.pair {x : D} {v : V} {i : D} {u : V} {p : Addr} (np : H p = none) (sm : Sim K w s H) (r : R K w H i u) (q : R K w H x v) : R K w (upd H p (.tup [u, v])) (.tup [i, x]) (.ref p) :=
  .tup ⟨sm.notin np, sm.notchi np⟩ upd_same (.cons (r.step (Step.new sm np)) (.cons (q.step (Step.new sm np)) .nil))
theorem ite_seq {a : Addr} {ds : List D} {vs : List V} (hs : ∀ w' H', PStep w H w' H' → SqL K H' a vs) (rs : Rs K w H ds vs) : ItOk K w H (.seq ((List.range ds.length).zipWith (fun (i : Nat) d => D.tup [.int (i : Int), d]) ds)) (Ite K a) where
  go := fun w' s H' i d st sm e => by
    obtain ⟨x, ex, rfl⟩ := zipR_get (Option.some.inj e)
    obtain ⟨v, e1, e2⟩ := rs.get ex
    refine ⟨⟨vs, v, hs w' H' st, e1⟩, fun z H2 hy => ?_⟩
    obtain ⟨T, u, rfl, nT, rfl, hx⟩ := hy
    have := hx vs (hs w' _ st)
    rw [e1] at this
    cases this
    exact ⟨Step.new sm nT, sm.new nT, R.pair nT sm (.int _) (e2.pstep st)⟩
  stop := fun w' s H' i st sm e => ⟨vs, hs w' H' st, by rw [← rs.length]; exact zipR_end (Option.some.inj e)⟩
theorem ite_cell {a : Addr} {n k : Nat} (ha : w.ρ[n]? = some a) : ItOk K w H (.enu n k) (Ite K a) where
  go := fun w' s H' i d st sm e => by
    simp only [nextIt] at e
    split at e
    · rename_i xs hxs
      have e' := Option.some.inj e
      obtain ⟨b, vs, e1, e2, e3⟩ := sm.cell n xs hxs
      rw [st.pre n a ha] at e1
      cases e1
      cases cx : xs[i]? with
      | none => rw [cx] at e'; cases e'
      | some x =>
        rw [cx] at e'
        cases e'
        obtain ⟨v, e4, e5⟩ := e3.get cx
        refine ⟨⟨vs, v, .of e2, e4⟩, fun z H2 hy => ?_⟩
        obtain ⟨T, u, rfl, nT, rfl, hx⟩ := hy
        have := hx vs (.of e2)
        rw [e4] at this
        cases this
        exact ⟨Step.new sm nT, sm.new nT, R.pair nT sm (.int _) e5⟩
    · cases e
  stop := fun w' s H' i st sm e => by
    simp only [nextIt] at e
    split at e
    · rename_i xs hxs
      have e' := Option.some.inj e
      obtain ⟨b, vs, e1, e2, e3⟩ := sm.cell n xs hxs
      rw [st.pre n a ha] at e1
      cases e1
      refine ⟨vs, .of e2, ?_⟩
      rw [← e3.length]
      cases cx : xs[i]? with
      | none => exact List.getElem?_eq_none_iff.mp cx
      | some x => rw [cx] at e'; cases e'
    · cases e
theorem iteT_seq {a : Addr} {ds : List D} {vs : List V} (hs : ∀ w' H', PStep w H w' H' → SqT K H' a vs) (rs : Rs K w H ds vs) : ItOk K w H (.seq ((List.range ds.length).zipWith (fun (i : Nat) d => D.tup [.int (i : Int), d]) ds)) (IteT K a) where
  go := fun w' s H' i d st sm e => by
    obtain ⟨x, ex, rfl⟩ := zipR_get (Option.some.inj e)
    obtain ⟨v, e1, e2⟩ := rs.get ex
    refine ⟨⟨vs, v, hs w' H' st, e1⟩, fun z H2 hy => ?_⟩
    obtain ⟨T, u, rfl, nT, rfl, hx⟩ := hy
    have := hx vs (hs w' _ st)
    rw [e1] at this
    cases this
    exact ⟨Step.new sm nT, sm.new nT, R.pair nT sm (.int _) (e2.pstep st)⟩
  stop := fun w' s H' i st sm e => ⟨vs, hs w' H' st, by rw [← rs.length]; exact zipR_end (Option.some.inj e)⟩
theorem itz_seq {a b : Addr} {ds es : List D} {vs us : List V} (hs : ∀ w' H', PStep w H w' H' → SqL K H' a vs) (hs2 : ∀ w' H', PStep w H w' H' → SqL K H' b us) (rs : Rs K w H ds vs) (rs2 : Rs K w H es us) :
    ItOk K w H (.seq (List.zipWith (fun x y => D.tup [x, y]) ds es)) (Itz K a b) where
  go := fun w' s H' i d st sm e => by
    obtain ⟨x, y, ex, ey, rfl⟩ := zipD_get (Option.some.inj e)
    obtain ⟨v, e1, e2⟩ := rs.get ex
    obtain ⟨u, e3, e4⟩ := rs2.get ey
    refine ⟨⟨vs, us, v, u, hs w' H' st, hs2 w' H' st, e1, e3⟩, fun z H2 hy => ?_⟩
    obtain ⟨T, u1, u2, rfl, nT, rfl, hx, hy⟩ := hy
    have h1 := hx vs (hs w' _ st)
    have h2 := hy us (hs2 w' _ st)
    rw [e1] at h1
    rw [e3] at h2
    cases h1
    cases h2
    exact ⟨Step.new sm nT, sm.new nT, R.pair nT sm (e2.pstep st) (e4.pstep st)⟩
  stop := fun w' s H' i st sm e => ⟨vs, us, hs w' H' st, hs2 w' H' st, by rw [← rs.length, ← rs2.length]; exact zipD_end (Option.some.inj e)⟩
theorem itzT_seq {a b : Addr} {ds es : List D} {vs us : List V} (hs : ∀ w' H', PStep w H w' H' → SqT K H' a vs) (hs2 : ∀ w' H', PStep w H w' H' → SqT K H' b us) (rs : Rs K w H ds vs) (rs2 : Rs K w H es us) :
    ItOk K w H (.seq (List.zipWith (fun x y => D.tup [x, y]) ds es)) (RZ.ItzT K a b) where
  go := fun w' s H' i d st sm e => by
    obtain ⟨x, y, ex, ey, rfl⟩ := zipD_get (Option.some.inj e)
    obtain ⟨v, e1, e2⟩ := rs.get ex
    obtain ⟨u, e3, e4⟩ := rs2.get ey
    refine ⟨⟨vs, us, v, u, hs w' H' st, hs2 w' H' st, e1, e3⟩, fun z H2 hy => ?_⟩
    obtain ⟨T, u1, u2, rfl, nT, rfl, hx, hy⟩ := hy
    have h1 := hx vs (hs w' _ st)
    have h2 := hy us (hs2 w' _ st)
    rw [e1] at h1
    rw [e3] at h2
    cases h1
    cases h2
    exact ⟨Step.new sm nT, sm.new nT, R.pair nT sm (e2.pstep st) (e4.pstep st)⟩
  stop := fun w' s H' i st sm e => ⟨vs, us, hs w' H' st, hs2 w' H' st, by rw [← rs.length, ← rs2.length]; exact zipD_end (Option.some.inj e)⟩
theorem R.keepT {a : Addr} {vs : List V} (n : a ∉ w.ρ ∧ a ∉ w.χ) (h : H a = some (.tup vs)) : ∀ w' H', PStep w H w' H' → SqT K H' a vs := fun w' H' st => .of (st.keep _ _ h n.1 n.2)
end
section
variable {X : Cx} {W : WX} {a b c : Expr} {fs : Ea} {pos tpos : Pos} {elts : List Expr} {kk : Nat}
theorem ri_enum {p : Pos} (hg : Gl X "enumerate") (hm : X.mg "enumerate" = none) (ha : RA X W [a] fs) (hs : starEach [a] X.env = [(false, eval a X.env)] := by rfl) : RI X W (.Tuple elts kk tpos) (.Call (.Name "enumerate" p) [a] [] pos) (eItA pEnum fs) :=
  PI.imp (pi_enumT hg hm ha hs) fun σ H Q ⟨w, e, s, er, sm, q⟩ =>
  ⟨w, e, s, er, sm, (wr_bind q).mono fun v H1 ⟨w1, d1, s1, st1, sm1, r1, q1⟩ => by
    unfold pEnum at q1
    split at q1
    · rename_i x
      cases r1 with
      | cons r rs =>
        cases rs
        split at q1
        · cases r with
          | tup n h rs => exact ⟨_, _, rfl, .inr ⟨.of h, q1 w1 _ H1 Step.refl sm1 (iteT_seq (R.keepT n h) rs)⟩⟩
        · cases r with
          | lst h rs => exact ⟨_, _, rfl, .inl ⟨.of h.2.2, q1 w1 _ H1 Step.refl sm1 (ite_seq (fun w' H' st => .of (h.pstep st).2.2) rs)⟩⟩
        · cases r with
          | fz h rs => exact ⟨_, _, rfl, .inl ⟨h.sq, q1 w1 _ H1 Step.refl sm1 (ite_seq (fun w' H' st => (h.pstep st).sq) rs)⟩⟩
        · split at q1
          · rename_i xs hxs
            cases r with
            | ref hr =>
              obtain ⟨b, vs, f1, f2, f3⟩ := sm1.cell _ xs hxs
              rw [hr] at f1
              cases f1
              exact ⟨_, _, rfl, .inl ⟨.of f2, q1 w1 _ H1 Step.refl sm1 (ite_cell hr)⟩⟩
          · exact q1.elim
        · exact q1.elim
    · exact q1.elim⟩
theorem ri_zip {p : Pos} (hg : Gl X "zip") (hm : X.mg "zip" = none) (ha : RA X W [a, b] fs) (hs : starEach [a, b] X.env = (false, eval a X.env) :: starEach [b] X.env := by rfl) (hpl : (backTo pos (starEach [b] X.env)).any (·.1) = false := by rfl) :
    RI X W (.Tuple elts kk tpos) (.Call (.Name "zip" p) [a, b] [] pos) (eItA pZip fs) :=
  PI.imp (RZ.pi_zipA hg hm ha hs hpl) fun σ H Q ⟨w, e, s, er, sm, q⟩ =>
  ⟨w, e, s, er, sm, (wr_bind q).mono fun v H1 ⟨w1, d1, s1, st1, sm1, r1, q1⟩ => by
    unfold pZip at q1
    split at q1
    · cases r1 with
      | cons r rs =>
        cases rs with
        | cons r' rs =>
          cases rs
          cases r with
          | tup n h rs =>
            cases r' with
            | tup n' h' rs' => exact ⟨_, _, _, _, rfl, .inr ⟨.of h, .of h', q1 w1 _ H1 Step.refl sm1 (itzT_seq (R.keepT n h) (R.keepT n' h') rs rs')⟩⟩
    · cases r1 with
      | cons r rs =>
        cases rs with
        | cons r' rs =>
          cases rs
          cases r with
          | lst h rs =>
            cases r' with
            | lst h' rs' => exact ⟨_, _, _, _, rfl, .inl ⟨.of h.2.2, .of h'.2.2, q1 w1 _ H1 Step.refl sm1 (itz_seq (fun w' H' st => .of (h.pstep st).2.2) (fun w' H' st => .of (h'.pstep st).2.2) rs rs')⟩⟩
    · exact q1.elim⟩
end

/-! ### built-ins -/
/-- all ints -/
def intsD : List D → Option (List Int)
  | [] => some []
  | .int i :: r => (intsD r).map (i :: ·)
  | _ :: _ => none
theorem intsD_ok {K : PySem.W.Frag} {w : Wd} {H : Hp} : ∀ {ds : List D} {vs : List V} {ns : List Int}, Rs K w H ds vs → intsD ds = some ns → vs = ns.map V.int
  | [], vs, ns, r, e => by cases r; cases e; rfl
  | d :: ds, vs, ns, r, e => by
    cases r with
    | cons r rs =>
      cases r with
      | int i =>
        simp only [intsD] at e
        cases c : intsD ds with
        | none => rw [c] at e; cases e
        | some ms =>
          rw [c] at e
          cases e
          rw [intsD_ok rs c]
          rfl
      | _ => simp [intsD] at e
@[simp] theorem intsD_map (ns : List Int) : intsD (ns.map D.int) = some ns := by
  induction ns with
  | nil => rfl
  | cons n ns ih => simp [intsD, ih]
theorem Rs.ints {K : PySem.W.Frag} {w : Wd} {H : Hp} : ∀ ns : List Int, Rs K w H (ns.map D.int) (ns.map V.int)
  | [] => .nil
  | n :: ns => .cons (.int n) (Rs.ints ns)
def boolsD : List D → Option (List Bool)
  | [] => some []
  | .bl b :: r => (boolsD r).map (b :: ·)
  | .int i :: r => (boolsD r).map ((i != 0) :: ·)
  | .non :: r => (boolsD r).map (false :: ·)
  | _ :: _ => none
/-- insertion sort -/
def insI (x : Int) : List Int → List Int
  | [] => [x]
  | y :: ys => if x ≤ y then x :: y :: ys else y :: insI x ys
def srtI : List Int → List Int
  | [] => []
  | x :: xs => insI x (srtI xs)
theorem insI_perm (x : Int) : ∀ l, (insI x l).Perm (x :: l)
  | [] => .refl _
  | y :: ys => by
    unfold insI
    split
    · exact .refl _
    · exact ((insI_perm x ys).cons y).trans (List.Perm.swap x y ys)
theorem srtI_perm : ∀ l, (srtI l).Perm l
  | [] => .refl _
  | x :: xs => (insI_perm x _).trans ((srtI_perm xs).cons x)
theorem insI_sorted (x : Int) : ∀ l : List Int, l.Pairwise (· ≤ ·) → (insI x l).Pairwise (· ≤ ·)
  | [], _ => by simp [insI]
  | y :: ys, h => by
    unfold insI
    obtain ⟨h1, h2⟩ := List.pairwise_cons.mp h
    split
    · rename_i hx
      exact List.pairwise_cons.mpr ⟨fun z hz => by rcases List.mem_cons.mp hz with e | e; omega; have := h1 z e; omega, h⟩
    · rename_i hx
      refine List.pairwise_cons.mpr ⟨fun z hz => ?_, insI_sorted x ys h2⟩
      have := (insI_perm x ys).mem_iff.mp hz
      rcases List.mem_cons.mp this with e | e
      · omega
      · exact h1 z e
theorem srtI_sorted : ∀ l : List Int, (srtI l).Pairwise (· ≤ ·)
  | [] => .nil
  | x :: xs => insI_sorted x _ (srtI_sorted xs)
theorem sorted_one : ∀ {l m : List Int}, l.Perm m → l.Pairwise (· ≤ ·) → m.Pairwise (· ≤ ·) → l = m
  | [], m, p, _, _ => (p.nil_eq)
  | x :: xs, [], p, _, _ => by have := p.length_eq; simp at this
  | x :: xs, y :: ys, p, h1, h2 => by
    obtain ⟨a1, a2⟩ := List.pairwise_cons.mp h1
    obtain ⟨b1, b2⟩ := List.pairwise_cons.mp h2
    have e : x = y := by
      have hx : x ∈ y :: ys := p.mem_iff.mp List.mem_cons_self
      have hy : y ∈ x :: xs := p.mem_iff.mpr List.mem_cons_self
      rcases List.mem_cons.mp hx with e | hx
      · exact e
      · rcases List.mem_cons.mp hy with e | hy
        · exact e.symm
        · have := b1 x hx
          have := a1 y hy
          omega
    subst e
    rw [sorted_one ((List.perm_cons x).mp p) a2 b2]
theorem srtI_of {l m : List Int} (p : m.Perm l) (h : m.Pairwise (· ≤ ·)) : m = srtI l := sorted_one (p.trans (srtI_perm l).symm) h (srtI_sorted l)
/-- the least, the greatest -/
def minI : List Int → Int
  | [] => 0
  | x :: xs => xs.foldl min x
def maxI : List Int → Int
  | [] => 0
  | x :: xs => xs.foldl max x
theorem minI_le : ∀ (xs : List Int) (x : Int), (∀ y ∈ x :: xs, xs.foldl min x ≤ y) ∧ xs.foldl min x ∈ x :: xs
  | [], x => by simp
  | y :: ys, x => by
    obtain ⟨h1, h2⟩ := minI_le ys (min x y)
    refine ⟨fun z hz => ?_, ?_⟩
    · simp only [List.foldl_cons]
      have h0 := h1 (min x y) List.mem_cons_self
      rcases List.mem_cons.mp hz with e | hz
      · omega
      · rcases List.mem_cons.mp hz with e | hz
        · omega
        · exact h1 z (List.mem_cons_of_mem _ hz)
    · simp only [List.foldl_cons]
      rcases List.mem_cons.mp h2 with e | h2
      · rw [e]
        by_cases h : x ≤ y
        · rw [Int.min_eq_left h]; exact List.mem_cons_self
        · rw [Int.min_eq_right (by omega)]; simp
      · exact List.mem_cons_of_mem _ (List.mem_cons_of_mem _ h2)
theorem maxI_ge : ∀ (xs : List Int) (x : Int), (∀ y ∈ x :: xs, y ≤ xs.foldl max x) ∧ xs.foldl max x ∈ x :: xs
  | [], x => by simp
  | y :: ys, x => by
    obtain ⟨h1, h2⟩ := maxI_ge ys (max x y)
    refine ⟨fun z hz => ?_, ?_⟩
    · simp only [List.foldl_cons]
      have h0 := h1 (max x y) List.mem_cons_self
      rcases List.mem_cons.mp hz with e | hz
      · omega
      · rcases List.mem_cons.mp hz with e | hz
        · omega
        · exact h1 z (List.mem_cons_of_mem _ hz)
    · simp only [List.foldl_cons]
      rcases List.mem_cons.mp h2 with e | h2
      · rw [e]
        by_cases h : x ≤ y
        · rw [Int.max_eq_right h]; simp
        · rw [Int.max_eq_left (by omega)]; exact List.mem_cons_self
      · exact List.mem_cons_of_mem _ (List.mem_cons_of_mem _ h2)
theorem minI_of {ns : List Int} {m : Int} (h : m ∈ ns) (q : ∀ y ∈ ns, m ≤ y) : m = minI ns := by
  cases ns with
  | nil => cases h
  | cons x xs =>
    obtain ⟨h1, h2⟩ := minI_le xs x
    have a := h1 m h
    have b := q _ h2
    show m = xs.foldl min x
    omega
theorem maxI_of {ns : List Int} {m : Int} (h : m ∈ ns) (q : ∀ y ∈ ns, y ≤ m) : m = maxI ns := by
  cases ns with
  | nil => cases h
  | cons x xs =>
    obtain ⟨h1, h2⟩ := maxI_ge xs x
    have a := h1 m h
    have b := q _ h2
    show m = xs.foldl max x
    omega

def pLen (xs : List D) (s : S) : Res D := match xs with
  | [x] => match sqOf x s with
    | some ds => .ok (.int ds.length) s
    | none => .bad
  | _ => .bad
def pSum (xs : List D) (s : S) : Res D := match xs with
  | [x] => match sqOf x s with
    | some ds => match intsD ds with
      | some ns => .ok (.int ns.sum) s
      | none => .bad
    | none => .bad
  | _ => .bad
def pAny (xs : List D) (s : S) : Res D := match xs with
  | [x] => match lsq x s with
    | some ds => match boolsD ds with
      | some bs => .ok (.bl (bs.any id)) s
      | none => .bad
    | none => .bad
  | _ => .bad
def pAll (xs : List D) (s : S) : Res D := match xs with
  | [x] => match lsq x s with
    | some ds => match boolsD ds with
      | some bs => .ok (.bl (bs.all id)) s
      | none => .bad
    | none => .bad
  | _ => .bad
def pMin (xs : List D) (s : S) : Res D := match xs with
  | [.int i, .int j] => .ok (.int (if j < i then j else i)) s
  | [x] => match lsq x s with
    | some ds => match intsD ds with
      | some ns => if 0 < ns.length then .ok (.int (minI ns)) s else .bad
      | none => .bad
    | none => .bad
  | _ => .bad
def pMax (xs : List D) (s : S) : Res D := match xs with
  | [.int i, .int j] => .ok (.int (if j > i then j else i)) s
  | [x] => match lsq x s with
    | some ds => match intsD ds with
      | some ns => if 0 < ns.length then .ok (.int (maxI ns)) s else .bad
      | none => .bad
    | none => .bad
  | _ => .bad
def pAbs (xs : List D) (s : S) : Res D := match xs with
  | [.int i] => .ok (.int (if i < 0 then -i else i)) s
  | _ => .bad
def pInt (xs : List D) (s : S) : Res D := match xs with
  | [.int i] => .ok (.int i) s
  | [.bl b] => .ok (.int (if b then 1 else 0)) s
  | _ => .bad
def pLst (c : Bool) (xs : List D) (s : S) : Res D := match xs with
  | [x] => match sqOf x s with
    | some ds => mkL c ds s
    | none => .bad
  | _ => .bad
def pTup (xs : List D) (s : S) : Res D := match xs with
  | [.tup ds] => .ok (.tup ds) s
  | [x] => match lsq x s with
    | some ds => .ok (.tup ds) s
    | none => .bad
  | _ => .bad
/-- which class: by name -/
def tyD : D → String
  | .non => "NoneType"
  | .bl _ => "bool"
  | .int _ => "int"
  | .str _ => "str"
  | .tup _ => "tuple"
  | .lst _ => "list"
  | .fz _ => "list"
  | .ref _ => "list"
def pIsi (T : String) (x : D) (s : S) : Res D := match kitB (tyD x) T with
  | some b => .ok (.bl b) s
  | none => .bad

def rSumA (K : PySem.W.Frag) : List V → Hp → VK → Prop := fun vs H Q => ∃ (a : Addr) (ns : List Int), vs = [V.ref a] ∧ SqT K H a (ns.map V.int) ∧ Q (.int ns.sum) H
def rAnyT (K : PySem.W.Frag) : List V → Hp → VK → Prop := fun vs H Q => ∃ (a : Addr) (xs : List V) (bs : List Bool), vs = [V.ref a] ∧ SqL K H a xs ∧ bs.length = xs.length ∧ (∀ i v, xs[i]? = some v → (v = .bl (bs.getD i false) ∨ (v = .non ∧ bs.getD i false = false) ∨ ∃ k, v = .int k ∧ bs.getD i false = (k != 0))) ∧ Q (.bl (bs.any id)) H
def rAllT (K : PySem.W.Frag) : List V → Hp → VK → Prop := fun vs H Q => ∃ (a : Addr) (xs : List V) (bs : List Bool), vs = [V.ref a] ∧ SqL K H a xs ∧ bs.length = xs.length ∧ (∀ i v, xs[i]? = some v → (v = .bl (bs.getD i false) ∨ (v = .non ∧ bs.getD i false = false) ∨ ∃ k, v = .int k ∧ bs.getD i false = (k != 0))) ∧ Q (.bl (bs.all id)) H
section
variable {X : Cx}
theorem cr_sumT (hc : X.calm = true) : CallR X (.builtin "sum") (rSumA X.K) := by
  intro pins s σ H vs us Q I r h
  obtain ⟨a, ns, rfl, hs, q⟩ := h
  obtain ⟨its, rv, hl, _⟩ := I.tuple hs
  rw [Vals.ref1 r]
  have hi := rv.ints
  obtain ⟨xs, hx⟩ := hi.allInts.items
  have hn : numsOf its.toArray.toList = ns := by rw [show its.toArray.toList = its from rfl, hi.numsOf]
  have hl' : s.heap.IsTuple a its.toArray := hl
  rw [hx] at hl' hn
  rw [nums_intItems] at hn
  refine PySem.W.ktm_sumG (I.ok.hd hc) hl' fun h' tk t' hk => ?_
  rw [preSum_eq, List.take_of_length_le (by simp), hn]
  exact ⟨.int _, H, I.kept hk, ⟨_, rfl⟩, q⟩
theorem truth_flat {prog : Program} {w : World} {A : Around} {xs : List V} {its : List Value} {bs : List Bool} (r : Vals xs its)
    (h : ∀ i v, xs[i]? = some v → (v = .bl (bs.getD i false) ∨ (v = .non ∧ bs.getD i false = false) ∨ ∃ k, v = .int k ∧ bs.getD i false = (k != 0))) :
    TruthOf prog w A (fun i v => its.toArray[i]? = some v) (fun i => bs.getD i false) := fun i v s Q E hv hq => by
  have hv' : its[i]? = some v := by simpa using hv
  have hi := (List.getElem?_eq_some_iff.mp hv').1
  have hi2 : i < xs.length := by rw [r.length]; exact hi
  obtain ⟨u, e1, e2⟩ := r.get (List.getElem?_eq_getElem hi2)
  rw [hv'] at e1
  cases e1
  rcases h i _ (List.getElem?_eq_getElem hi2) with c | ⟨c, c2⟩ | ⟨k, c, c2⟩
  · rw [c] at e2
    cases e2
    exact wpAny_truthy_bool hq
  · rw [c] at e2
    cases e2
    refine truthy_none ?_
    have hq' : Q (bs.getD i false) s := hq
    rw [c2] at hq'
    exact hq'
  · rw [c] at e2
    obtain ⟨t, rfl⟩ := e2
    refine PySem.P.truthy_int ?_
    have hq' : Q (bs.getD i false) s := hq
    rw [c2] at hq'
    exact hq'
theorem cr_anyT (hc : X.calm = true) : CallR X (.builtin "any") (rAnyT X.K) := by
  intro pins s σ H vs us Q I r h
  obtain ⟨a, xs, bs, rfl, hs, hb, ht, q⟩ := h
  obtain ⟨its, rv, hl, _⟩ := I.list hs
  rw [Vals.ref1 r]
  refine call_any_walk (iter_any hl.isList fun s₂ e2 st hne => ?_)
  subst e2
  refine ⟨_, _, _, _, _, _, _, rfl, Walks.list (A := X.A.in1) (I.ok.hd hc) _ a hne its.toArray, st, truth_flat rv ht, fun h' tk hk => ?_⟩
  refine ⟨.bl _, H, I.kept fun b o eo => hk b o (fun hmem => ?_) (Heap.get?_push_of_some _ eo), ?_, q⟩
  · rcases List.mem_cons.mp hmem with e1 | hmem
    · exact absurd (e1 ▸ Heap.lt_size eo) (Nat.lt_irrefl _)
    · cases hmem
  · show Value.bool _ = Value.bool _
    rw [← L2.any_range, hb, List.size_toArray, ← rv.length]
theorem cr_allT (hc : X.calm = true) : CallR X (.builtin "all") (rAllT X.K) := by
  intro pins s σ H vs us Q I r h
  obtain ⟨a, xs, bs, rfl, hs, hb, ht, q⟩ := h
  obtain ⟨its, rv, hl, _⟩ := I.list hs
  rw [Vals.ref1 r]
  refine call_all_walk (iter_any hl.isList fun s₂ e2 st hne => ?_)
  subst e2
  refine ⟨_, _, _, _, _, _, _, rfl, Walks.list (A := X.A.in1) (I.ok.hd hc) _ a hne its.toArray, st, truth_flat rv ht, fun h' tk hk => ?_⟩
  refine ⟨.bl _, H, I.kept fun b o eo => hk b o (fun hmem => ?_) (Heap.get?_push_of_some _ eo), ?_, q⟩
  · rcases List.mem_cons.mp hmem with e1 | hmem
    · exact absurd (e1 ▸ Heap.lt_size eo) (Nat.lt_irrefl _)
    · cases hmem
  · show Value.bool _ = Value.bool _
    rw [← L2.all_range, hb, List.size_toArray, ← rv.length]
theorem boolsD_ok {K : PySem.W.Frag} {w : Wd} {H : Hp} : ∀ {ds : List D} {vs : List V} {bs : List Bool}, Rs K w H ds vs → boolsD ds = some bs →
    bs.length = vs.length ∧ ∀ i v, vs[i]? = some v → (v = .bl (bs.getD i false) ∨ (v = .non ∧ bs.getD i false = false) ∨ ∃ k, v = .int k ∧ bs.getD i false = (k != 0))
  | [], vs, bs, r, e => by cases r; cases e; exact ⟨rfl, fun i v q => by simp at q⟩
  | d :: ds, vs, bs, r, e => by
    cases r with
    | cons r rs =>
      rename_i v0 vs0
      have go : ∀ (b : Bool) (u : V), (boolsD ds).map (b :: ·) = some bs → (u = .bl b ∨ (u = .non ∧ b = false) ∨ ∃ k, u = .int k ∧ b = (k != 0)) →
          bs.length = (u :: vs0).length ∧ ∀ i v, (u :: vs0)[i]? = some v → (v = .bl (bs.getD i false) ∨ (v = .non ∧ bs.getD i false = false) ∨ ∃ k, v = .int k ∧ bs.getD i false = (k != 0)) := by
        intro b u e hu
        cases c : boolsD ds with
        | none => rw [c] at e; cases e
        | some cs =>
          rw [c] at e
          cases e
          obtain ⟨h1, h2⟩ := boolsD_ok rs c
          refine ⟨by simp [h1], fun i v q => ?_⟩
          cases i with
          | zero => simp at q; subst q; simpa using hu
          | succ i => simpa using h2 i v (by simpa using q)
      cases r with
      | bl b => exact go b _ e (.inl rfl)
      | int i => exact go _ _ e (.inr (.inr ⟨i, rfl, rfl⟩))
      | non => exact go _ _ e (.inr (.inl ⟨rfl, rfl⟩))
      | _ => simp [boolsD] at e

theorem one_of {K : PySem.W.Frag} {w : Wd} {H : Hp} {x : D} {vs : List V} (r : Rs K w H [x] vs) : ∃ v, vs = [v] ∧ R K w H x v := by
  cases r with
  | cons r rs => cases rs; exact ⟨_, rfl, r⟩
theorem p_len : PN X (fun xs H Q => ∃ x n, xs = [x] ∧ LenV X.K x H n ∧ Q (.int n) H) pLen := by
  intro w s H xs vs Q W sm r q
  unfold pLen at q
  split at q
  · obtain ⟨v, rfl, r1⟩ := one_of r
    split at q
    · rename_i ds hds
      obtain ⟨a, us, rfl, e2, e3⟩ := r1.sqa sm hds
      refine ⟨_, ds.length, rfl, ?_, wr_ok q sm (.int _)⟩
      rcases e2 with e2 | e2
      · exact .inl ⟨us, e2, e3.length⟩
      · exact .inr ⟨us, e2, e3.length⟩
    · exact q.elim
  · exact q.elim
theorem p_sum : PN X (fun xs H Q => rSum X.K xs H Q ∨ rSumA X.K xs H Q) pSum := by
  intro w s H xs vs Q W sm r q
  unfold pSum at q
  split at q
  · obtain ⟨v, rfl, r1⟩ := one_of r
    split at q
    · rename_i ds hds
      split at q
      · rename_i ns hns
        obtain ⟨a, us, rfl, e2, e3⟩ := r1.sqa sm hds
        have := intsD_ok e3 hns
        subst this
        rcases e2 with e2 | e2
        · exact .inl ⟨a, ns, rfl, e2, wr_ok q sm (.int _)⟩
        · exact .inr ⟨a, ns, rfl, e2, wr_ok q sm (.int _)⟩
      · exact q.elim
    · exact q.elim
  · exact q.elim
theorem o_sum (hc : X.calm = true) : CallR X (.builtin "sum") (fun xs H Q => rSum X.K xs H Q ∨ rSumA X.K xs H Q) := (cr_sum hc).or (cr_sumT hc)
theorem p_any : PN X (rAnyT X.K) pAny := by
  intro w s H xs vs Q W sm r q
  unfold pAny at q
  split at q
  · obtain ⟨v, rfl, r1⟩ := one_of r
    split at q
    · rename_i ds hds
      split at q
      · rename_i bs hbs
        obtain ⟨a, us, rfl, e2, e3⟩ := r1.sq sm hds
        obtain ⟨h1, h2⟩ := boolsD_ok e3 hbs
        exact ⟨a, us, bs, rfl, e2, h1, h2, wr_ok q sm (.bl _)⟩
      · exact q.elim
    · exact q.elim
  · exact q.elim
theorem p_all : PN X (rAllT X.K) pAll := by
  intro w s H xs vs Q W sm r q
  unfold pAll at q
  split at q
  · obtain ⟨v, rfl, r1⟩ := one_of r
    split at q
    · rename_i ds hds
      split at q
      · rename_i bs hbs
        obtain ⟨a, us, rfl, e2, e3⟩ := r1.sq sm hds
        obtain ⟨h1, h2⟩ := boolsD_ok e3 hbs
        exact ⟨a, us, bs, rfl, e2, h1, h2, wr_ok q sm (.bl _)⟩
      · exact q.elim
    · exact q.elim
  · exact q.elim
def rMin2 : List V → Hp → VK → Prop := fun xs H Q => ∃ i j, xs = [.int i, .int j] ∧ Q (.int (if j < i then j else i)) H
def rMax2 : List V → Hp → VK → Prop := fun xs H Q => ∃ i j, xs = [.int i, .int j] ∧ Q (.int (if j > i then j else i)) H
theorem o_min (hc : X.calm = true) : CallR X (.builtin "min") (fun xs H Q => rMin2 xs H Q ∨ rMin X.K xs H Q) := (call_min2 hc).or (cr_min hc)
theorem o_max (hc : X.calm = true) : CallR X (.builtin "max") (fun xs H Q => rMax2 xs H Q ∨ rMax X.K xs H Q) := (call_max2 hc).or (cr_max hc)
theorem p_min : PN X (fun xs H Q => rMin2 xs H Q ∨ rMin X.K xs H Q) pMin := by
  intro w s H xs vs Q W sm r q
  unfold pMin at q
  split at q
  · cases r with
    | cons r rs =>
      cases rs with
      | cons r2 rs =>
        cases rs
        cases r
        cases r2
        exact .inl ⟨_, _, rfl, wr_ok q sm (.int _)⟩
  · obtain ⟨v, rfl, r1⟩ := one_of r
    split at q
    · rename_i ds hds
      split at q
      · rename_i ns hns
        split at q
        · rename_i hl
          obtain ⟨a, us, rfl, e2, e3⟩ := r1.sq sm hds
          have := intsD_ok e3 hns
          subst this
          exact .inr ⟨a, ns, rfl, e2, hl, fun m h1 h2 => by rw [minI_of h1 h2]; exact wr_ok q sm (.int _)⟩
        · exact q.elim
      · exact q.elim
    · exact q.elim
  · exact q.elim
theorem p_max : PN X (fun xs H Q => rMax2 xs H Q ∨ rMax X.K xs H Q) pMax := by
  intro w s H xs vs Q W sm r q
  unfold pMax at q
  split at q
  · cases r with
    | cons r rs =>
      cases rs with
      | cons r2 rs =>
        cases rs
        cases r
        cases r2
        exact .inl ⟨_, _, rfl, wr_ok q sm (.int _)⟩
  · obtain ⟨v, rfl, r1⟩ := one_of r
    split at q
    · rename_i ds hds
      split at q
      · rename_i ns hns
        split at q
        · rename_i hl
          obtain ⟨a, us, rfl, e2, e3⟩ := r1.sq sm hds
          have := intsD_ok e3 hns
          subst this
          exact .inr ⟨a, ns, rfl, e2, hl, fun m h1 h2 => by rw [maxI_of h1 h2]; exact wr_ok q sm (.int _)⟩
        · exact q.elim
      · exact q.elim
    · exact q.elim
  · exact q.elim
theorem p_abs : PN X (fun xs H Q => ∃ i, xs = [.int i] ∧ Q (.int (if i < 0 then -i else i)) H) pAbs := by
  intro w s H xs vs Q W sm r q
  unfold pAbs at q
  split at q
  · obtain ⟨v, rfl, r1⟩ := one_of r
    cases r1
    exact ⟨_, rfl, wr_ok q sm (.int _)⟩
  · exact q.elim
theorem p_int : PN X (fun xs H Q => (∃ i, xs = [.int i] ∧ Q (.int i) H) ∨ ∃ k, xs = [.bl k] ∧ Q (.int (if k then 1 else 0)) H) pInt := by
  intro w s H xs vs Q W sm r q
  unfold pInt at q
  split at q
  · obtain ⟨v, rfl, r1⟩ := one_of r
    cases r1
    exact .inl ⟨_, rfl, wr_ok q sm (.int _)⟩
  · obtain ⟨v, rfl, r1⟩ := one_of r
    cases r1
    exact .inr ⟨_, rfl, wr_ok q sm (.int _)⟩
  · exact q.elim
theorem p_lst {c : Bool} : PN X (fun xs H Q => ∃ p ys, xs = [.ref p] ∧ (SqL X.K H p ys ∨ SqT X.K H p ys) ∧ ∀ l, H l = none → Q (.ref l) (upd H l (.lst ys))) (pLst c) := by
  intro w s H xs vs Q W sm r q
  unfold pLst at q
  split at q
  · obtain ⟨v, rfl, r1⟩ := one_of r
    split at q
    · rename_i ds hds
      obtain ⟨a, us, rfl, e2, e3⟩ := r1.sqa sm hds
      exact ⟨a, us, rfl, e2, wr_newLst q sm e3⟩
    · exact q.elim
  · exact q.elim
theorem p_tup : PN X (fun xs H Q => ∃ p ys, xs = [.ref p] ∧ ((SqL X.K H p ys ∧ ∀ l, H l = none → Q (.ref l) (upd H l (.tup ys))) ∨ (SqT X.K H p ys ∧ Q (.ref p) H))) pTup := by
  intro w s H xs vs Q W sm r q
  unfold pTup at q
  split at q
  · obtain ⟨v, rfl, r1⟩ := one_of r
    cases r1 with
    | tup n h rs => exact ⟨_, _, rfl, .inr ⟨.of h, wr_ok q sm (.tup n h rs)⟩⟩
  · obtain ⟨v, rfl, r1⟩ := one_of r
    split at q
    · rename_i ds hds
      obtain ⟨a, us, rfl, e2, e3⟩ := r1.sq sm hds
      exact ⟨a, us, rfl, .inl ⟨e2, wr_newTup q sm e3⟩⟩
    · exact q.elim
  · exact q.elim
variable {W : WX} {a b c : Expr} {fa fb : Ev} {fs : Ea} {pos : Pos}
theorem ty_ok {K : PySem.W.Frag} {w : Wd} {H : Hp} {s : S} {x : D} {v : V} (r : R K w H x v) (sm : Sim K w s H) (hr : ∀ n, x = .ref n → n < s.length) : TyX K H v (.type (tyD x)) := by
  cases r with
  | non => exact .base .non
  | bl b => exact .base (.bl b)
  | int i => exact .base (.int i)
  | str x => exact .base (.str x)
  | tup n h rs => exact .base (.tup h)
  | lst h rs => exact .base (.lst h.2.2)
  | fz h rs =>
    rcases h with ⟨_, o, h⟩ | h
    · exact .base (.frz h)
    · rcases h with rd | ⟨o, its, n, h1, h2, _⟩
      · rcases rd with q | ⟨o, q⟩ <;> cases q
      · exact .kList h1 h2
  | @ref a n h =>
    have hl := hr n rfl
    obtain ⟨b, vs, e1, e2, _⟩ := sm.cell n _ (List.getElem?_eq_getElem hl)
    rw [h] at e1
    cases e1
    exact .base (.lst e2)
theorem ref_lt {K : PySem.W.Frag} {w : Wd} {H : Hp} {s : S} {x : D} {v : V} (r : R K w H x v) (sm : Sim K w s H) : ∀ n, x = .ref n → n < s.length := by
  intro n e
  subst e
  cases r with
  | ref h => rw [← sm.len]; exact (List.getElem?_eq_some_iff.mp h).1
theorem re_isi {T : String} {x : Str} {p p2 : Pos} (hg : Gl X "isinstance") (hm : X.mg "isinstance" = none) (hgT : Gl X x) (hmT : X.mg x = none) (hbT : bootBuiltins x = some (.type T)) (ha : RE X W a fa)
    (hn : x ≠ "__name__" := by decide) (hdb : (x == ("__debug__" : Str)) = false := by decide)
    (he : starEach [a, .Name x p2] X.env = (false, eval a X.env) :: starEach [.Name x p2] X.env := by rfl) (he2 : starEach [.Name x p2] X.env = (false, eval (.Name x p2) X.env) :: starEach [] X.env := by rfl)
    (hpl : (backTo pos (starEach [.Name x p2] X.env)).any (·.1) = false := by rfl) : RE X W (.Call (.Name "isinstance" p) [a, .Name x p2] [] pos) (e1 (pIsi T) fa) :=
  PE.imp (pe_callB call_isi hg hm PyProof.Rows.boot_isinstance (pa_cons ha (pa_cons (pe_bltn (v := .ty T) hgT hmT hbT rfl hn hdb) pa_nil he2) he) (by decide) (by decide) he hpl) fun σ H Q ⟨w, e, s, er, sm, q⟩ =>
  ⟨w, e, s, er, sm, (wr_bind q).mono fun v H1 ⟨w1, d1, s1, st1, sm1, r1, q1⟩ => by
    unfold pIsi at q1
    split at q1
    · rename_i b hb
      exact ⟨v, .ty T, _, _, b, rfl, .ty T, ty_ok r1 sm1 (ref_lt r1 sm1), kit_ty hb, wr_ok q1 sm1 (.bl b)⟩
    · exact q1.elim⟩

end
end Cf

set_option Elab.async false
set_option linter.all false
set_option maxRecDepth 100000
set_option maxHeartbeats 4000000
/-! Cf, part H: methods of lists, stores at places, double comprehensions. -/
namespace Cf
open PySem PySem.Spec L2
open PyProof.Rows hiding St

def eM (p : D → List D → S → Res D) (f : Ev) (g : Ea) : Ev := fun e s => (f e s).bind fun o s => match lsw o s with
  | some _ => (g e s).bind fun xs s => p o xs s
  | none => .bad
def mApp (o : D) (xs : List D) (s : S) : Res D := match o, xs with
  | .ref n, [y] => match s[n]? with
    | some ds => if ds.length < sizeLine then .ok .non (s.set n (ds ++ [y])) else .bad
    | none => .bad
  | _, _ => .bad
def mExt (o : D) (xs : List D) (s : S) : Res D := match o, xs with
  | .ref n, [y] => match s[n]?, lsw y s with
    | some ds, some es => if ds.length + es.length ≤ sizeLine then .ok .non (s.set n (ds ++ es)) else .bad
    | _, _ => .bad
  | _, _ => .bad
def mPop (o : D) (xs : List D) (s : S) : Res D := match o, xs with
  | .ref n, [] => match s[n]? with
    | some ds => match ds[ds.length - 1]? with
      | some y => .ok y (s.set n ds.dropLast)
      | none => .bad
    | none => .bad
  | _, _ => .bad
def mPopAt (o : D) (xs : List D) (s : S) : Res D := match o, xs with
  | .ref n, [.int i] => match s[n]? with
    | some ds => if -(2 ^ 63) ≤ i ∧ i < 2 ^ 63 then match seqIndex? i ds.length with
        | some k => match ds[k]? with
          | some y => .ok y (s.set n (ds.eraseIdx k))
          | none => .bad
        | none => .bad else .bad
    | none => .bad
  | _, _ => .bad
/-- what a store at a place leaves -/
def setD (o i v : D) (s : S) : Option S := match o, i with
  | .ref n, .int k => match s[n]? with
    | some ds => match ixN ds.length k with
      | some j => some (s.set n (ds.set j v))
      | none => none
    | none => none
  | _, _ => none
def sStore (fv fo fi : Ev) : Es := sB fv fun v e s => sB fo (fun o e s => sB fi (fun i e s => match setD o i v s with
  | some s' => .ok (.nx e) s'
  | none => .bad) e s) e s
/-- o[i] op= e -/
def sAugIx (p : D → D → S → Res D) (fo fi fe : Ev) : Es := sB fo fun o e s => sB fi (fun i e s => match o with
  | .ref _ => sB (fun _ s => pIx o i s) (fun x e s => sB fe (fun y e s => sB (fun _ s => p x y s) (fun z e s => match setD o i z s with
    | some s' => .ok (.nx e) s'
    | none => .bad) e s) e s) e s
  | _ => .bad) e s
/-- x op= e -/
def sAug (k : Nat) (p : D → D → S → Res D) (fe : Ev) : Es := fun e s => match e[k]? with
  | some (some x) => sB fe (fun y e s => sB (fun _ s => p x y s) (fun z e s => .ok (.nx (e.set k (some z))) s) e s) e s
  | _ => .bad
/-- a, b = e1, e2 -/
def sPar (i j : Nat) (fs : Ea) : Es := sB fs fun ds e s => match ds with
  | [x, y] => .ok (.nx ((e.set i (some x)).set j (some y))) s
  | _ => .bad

section
variable {X : Cx} {W : WX} {a b c o i : Expr} {fa fb fo fi : Ev} {fs : Ea} {pos apos cpos : Pos} {es : List Expr}
def PM (X : Cx) (r : V → List V → Hp → VK → Prop) (p : D → List D → S → Res D) : Prop := ∀ (w : Wd) (s : S) (H : Hp) (x : D) (xs : List D) (v : V) (vs : List V) (Q : VK) (W : Value → Option Addr → Hp → Prop),
  Sim X.K w s H → R X.K w H x v → Rs X.K w H xs vs → wr X.K X.mg (TR X.K) w H (p x xs s) Q W → r v vs H Q
theorem ref_at {K : PySem.W.Frag} {w : Wd} {H : Hp} {s : S} {n : Nat} {v : V} {ds : List D} (r : R K w H (.ref n) v) (sm : Sim K w s H) (e : s[n]? = some ds) : ∃ a vs, v = .ref a ∧ w.ρ[n]? = some a ∧ H a = some (.lst vs) ∧ Rs K w H ds vs := by
  cases r with
  | ref q =>
    obtain ⟨b, vs, e1, e2, e3⟩ := sm.cell n ds e
    rw [q] at e1
    cases e1
    exact ⟨_, vs, rfl, q, e2, e3⟩
theorem m_app : PM X rAppend mApp := by
  intro w s H x xs v vs Q W sm rx rs q
  unfold mApp at q
  split at q
  · split at q
    · rename_i ds hds
      split at q
      · rename_i hl
        obtain ⟨l, us, rfl, e1, e2, e3⟩ := ref_at rx sm hds
        cases rs with
        | cons r rs =>
          cases rs
          exact ⟨l, us, _, rfl, rfl, e2, by rw [← e3.length]; exact hl, q w .non _ (Step.write e1) (sm.write e1 (e3.append (.cons r .nil))) .non⟩
      · exact q.elim
    · exact q.elim
  · exact q.elim
theorem m_ext : PM X rExtend mExt := by
  intro w s H x xs v vs Q W sm rx rs q
  unfold mExt at q
  split at q
  · split at q
    · rename_i ds es hds hes
      split at q
      · rename_i hl
        obtain ⟨l, us, rfl, e1, e2, e3⟩ := ref_at rx sm hds
        cases rs with
        | cons r rs =>
          cases rs
          obtain ⟨b, ws, rfl, e4, e5⟩ := r.sw sm hes
          exact ⟨l, b, us, ws, rfl, rfl, e2, e4, by rw [← e3.length, ← e5.length]; exact hl, q w .non _ (Step.write e1) (sm.write e1 (e3.append e5)) .non⟩
      · exact q.elim
    · exact q.elim
  · exact q.elim
theorem Rs.dropLast {K : PySem.W.Frag} {w : Wd} {H : Hp} {ds : List D} {vs : List V} (h : Rs K w H ds vs) : Rs K w H ds.dropLast vs.dropLast := by
  rw [List.dropLast_eq_take, List.dropLast_eq_take, h.length]
  exact h.take _
theorem m_pop : PM X rPop mPop := by
  intro w s H x xs v vs Q W sm rx rs q
  unfold mPop at q
  split at q
  · split at q
    · rename_i ds hds
      split at q
      · rename_i y hy
        obtain ⟨l, us, rfl, e1, e2, e3⟩ := ref_at rx sm hds
        cases rs
        obtain ⟨u, e4, e5⟩ := e3.get hy
        have st := Step.write (H := H) (o := .lst us.dropLast) e1
        exact ⟨l, us, u, rfl, rfl, e2, by rw [← e3.length]; exact e4, q w u _ st (sm.write e1 e3.dropLast) (e5.step st)⟩
      · exact q.elim
    · exact q.elim
  · exact q.elim
theorem m_popAt : PM X rPopAt mPopAt := by
  intro w s H x xs v vs Q W sm rx rs q
  unfold mPopAt at q
  split at q
  · split at q
    · rename_i ds hds
      split at q
      · rename_i hi
        split at q
        · rename_i k hk
          split at q
          · rename_i y hy
            obtain ⟨l, us, rfl, e1, e2, e3⟩ := ref_at rx sm hds
            cases rs with
            | cons r rs =>
              cases rs
              cases r
              obtain ⟨u, e4, e5⟩ := e3.get hy
              have st := Step.write (H := H) (o := .lst (us.eraseIdx k)) e1
              exact ⟨l, us, _, k, u, rfl, rfl, e2, hi.1, hi.2, by rw [← e3.length]; exact hk, e4, q w u _ st (sm.write e1 (e3.eraseIdx k)) (e5.step st)⟩
          · exact q.elim
        · exact q.elim
      · exact q.elim
    · exact q.elim
  · exact q.elim
theorem impM {r : V → List V → Hp → VK → Prop} {p : D → List D → S → Res D} (hp : PM X r p) : ∀ σ H Q, tE X.K X.mg W (eM p fo fs) σ H Q → tBM X.K "list" r (tE X.K X.mg W fo) (tA X.K X.mg W fs) σ H Q := fun σ H Q ⟨w, e, s, er, sm, q⟩ =>
  ⟨w, e, s, er, sm, (wr_bind q).mono fun v H1 ⟨w1, d1, s1, st1, sm1, r1, q1⟩ => by
    cases c : lsw d1 s1 with
    | none => simp only [c] at q1; exact q1.elim
    | some ds =>
      simp only [c] at q1
      obtain ⟨a, vs, rfl, h1, _⟩ := r1.sw sm1 c
      refine ⟨.inl ⟨rfl, vs, .of h1⟩, w1, e, s1, er.step st1, sm1, (wr_bind q1).mono fun us H2 ⟨w2, d2, s2, st2, sm2, r2, q2⟩ => ?_⟩
      exact hp w2 s2 H2 d1 d2 _ us Q _ sm2 (r1.step st2) r2 q2⟩
theorem re_m {name : Str} {id : String} {r : V → List V → Hp → VK → Prop} {p : D → List D → S → Res D} (slot : Slot "list" name id) (hty : typeOf (.builtin id) = pure (.type "method_descriptor")) (hm : MtR X id r) (hp : PM X r p) (ho : RE X W o fo) (ha : RA X W (a :: es) fs)
    (hbase : attributeBase o name X.env (eval o X.env) = eval o X.env := by rfl)
    (hfew : ((backTo cpos (starEach (a :: es) X.env)).all (fun x => !x.1) && (backToKw cpos (keywordEach [] X.env)).all (fun x => x.1.isSome)
      && decide ((a :: es).length + ([] : List Keyword).length + (if ([] : List Keyword).isEmpty then 0 else 1) < 30)) = true := by rfl)
    (hline : (apos.endLine == cpos.line) = true := by rfl) (hs : starEach (a :: es) X.env = (false, eval a X.env) :: starEach es X.env := by rfl) (hplain : (backTo cpos (starEach es X.env)).any (·.1) = false := by rfl) :
    RE X W (.Call (.Attribute o name apos) (a :: es) [] cpos) (eM p fo fs) := PE.imp (pe_bm PySem.F.plainAttrs_list slot hty hm ho ha hbase hfew hline hs hplain) (impM hp)
theorem re_m0 {name : Str} {id : String} {r : V → List V → Hp → VK → Prop} {p : D → List D → S → Res D} (slot : Slot "list" name id) (hty : typeOf (.builtin id) = pure (.type "method_descriptor")) (hm : MtR X id r) (hp : PM X r p) (ho : RE X W o fo)
    (hbase : attributeBase o name X.env (eval o X.env) = eval o X.env := by rfl) (hline : (apos.endLine == cpos.line) = true := by rfl) :
    RE X W (.Call (.Attribute o name apos) [] [] cpos) (eM p fo eN) := PE.imp (pe_bm0 PySem.F.plainAttrs_list slot hty hm ho hbase hline) fun σ H Q ⟨w, e, s, er, sm, q⟩ =>
  ⟨w, e, s, er, sm, (wr_bind q).mono fun v H1 ⟨w1, d1, s1, st1, sm1, r1, q1⟩ => by
    cases c : lsw d1 s1 with
    | none => simp only [c] at q1; exact q1.elim
    | some ds =>
      simp only [c] at q1
      obtain ⟨a, vs, rfl, h1, _⟩ := r1.sw sm1 c
      exact ⟨.inl ⟨rfl, vs, .of h1⟩, hp w1 s1 H1 d1 [] _ [] Q _ sm1 r1 .nil q1⟩⟩
theorem re_app (ho : RE X W o fo) (ha : RA X W [a] fs) (hbase : attributeBase o "append" X.env (eval o X.env) = eval o X.env := by rfl)
    (hfew : ((backTo cpos (starEach [a] X.env)).all (fun x => !x.1) && (backToKw cpos (keywordEach [] X.env)).all (fun x => x.1.isSome)
      && decide (([a] : List Expr).length + ([] : List Keyword).length + (if ([] : List Keyword).isEmpty then 0 else 1) < 30)) = true := by rfl)
    (hline : (apos.endLine == cpos.line) = true := by rfl) (hs : starEach [a] X.env = (false, eval a X.env) :: starEach [] X.env := by rfl) (hplain : (backTo cpos (starEach [] X.env)).any (·.1) = false := by rfl) :
    RE X W (.Call (.Attribute o "append" apos) [a] [] cpos) (eM mApp fo fs) := re_m PySem.F.slot_list_append PySem.F.type_list_append mt_append m_app ho ha hbase hfew hline hs hplain
theorem re_ext (ho : RE X W o fo) (ha : RA X W [a] fs) (hbase : attributeBase o "extend" X.env (eval o X.env) = eval o X.env := by rfl)
    (hfew : ((backTo cpos (starEach [a] X.env)).all (fun x => !x.1) && (backToKw cpos (keywordEach [] X.env)).all (fun x => x.1.isSome)
      && decide (([a] : List Expr).length + ([] : List Keyword).length + (if ([] : List Keyword).isEmpty then 0 else 1) < 30)) = true := by rfl)
    (hline : (apos.endLine == cpos.line) = true := by rfl) (hs : starEach [a] X.env = (false, eval a X.env) :: starEach [] X.env := by rfl) (hplain : (backTo cpos (starEach [] X.env)).any (·.1) = false := by rfl) :
    RE X W (.Call (.Attribute o "extend" apos) [a] [] cpos) (eM mExt fo fs) := re_m PySem.F.slot_list_extend PySem.F.type_list_extend mt_extend m_ext ho ha hbase hfew hline hs hplain
theorem re_popAt (ho : RE X W o fo) (ha : RA X W [a] fs) (hbase : attributeBase o "pop" X.env (eval o X.env) = eval o X.env := by rfl)
    (hfew : ((backTo cpos (starEach [a] X.env)).all (fun x => !x.1) && (backToKw cpos (keywordEach [] X.env)).all (fun x => x.1.isSome)
      && decide (([a] : List Expr).length + ([] : List Keyword).length + (if ([] : List Keyword).isEmpty then 0 else 1) < 30)) = true := by rfl)
    (hline : (apos.endLine == cpos.line) = true := by rfl) (hs : starEach [a] X.env = (false, eval a X.env) :: starEach [] X.env := by rfl) (hplain : (backTo cpos (starEach [] X.env)).any (·.1) = false := by rfl) :
    RE X W (.Call (.Attribute o "pop" apos) [a] [] cpos) (eM mPopAt fo fs) := re_m PySem.F.slot_list_pop PySem.F.type_list_pop mt_popAt m_popAt ho ha hbase hfew hline hs hplain
theorem re_pop (ho : RE X W o fo) (hbase : attributeBase o "pop" X.env (eval o X.env) = eval o X.env := by rfl) (hline : (apos.endLine == cpos.line) = true := by rfl) :
    RE X W (.Call (.Attribute o "pop" apos) [] [] cpos) (eM mPop fo eN) := re_m0 PySem.F.slot_list_pop PySem.F.type_list_pop mt_pop m_pop ho hbase hline

/-! stores -/
theorem setD_ok {K : PySem.W.Frag} {w : Wd} {H : Hp} {s s' : S} {x y z : D} {v u t : V} (sm : Sim K w s H) (rx : R K w H x v) (ry : R K w H y u) (rz : R K w H z t) (e : setD x y z s = some s') :
    ∃ p xs k j, v = .ref p ∧ u = .int k ∧ H p = some (.lst xs) ∧ ixN xs.length k = some j ∧ Step w H w (upd H p (.lst (xs.set j t))) ∧ Sim K w s' (upd H p (.lst (xs.set j t))) := by
  unfold setD at e
  split at e
  · split at e
    · rename_i ds hds
      split at e
      · rename_i j hj
        cases e
        obtain ⟨l, us, rfl, e1, e2, e3⟩ := ref_at rx sm hds
        cases ry
        exact ⟨l, us, _, j, rfl, rfl, e2, by rw [← e3.length]; exact hj, Step.write e1, sm.write e1 (e3.set j rz)⟩
      · cases e
    · cases e
  · cases e
theorem rs_store {tp : Pos} (hv : RE X W a fa) (ho : RE X W o fo) (hi : RE X W i fi)
    (hg : ∀ v, assign (.Subscript o i tp) X.env v = (do
      let ov ← holding [v] (eval o X.env)
      let iv ← holding [v, ov] (eval i X.env)
      standAt tp
      holding [v, ov, iv] (setItem ov iv v)
      release [v, ov, iv] []) := by intro _; rfl) (hs : swapsWithSole [.Subscript o i tp] a pos.line X.env = pure false := by rfl) (hw : swappedStores [.Subscript o i tp] a X.env = pure none := by rfl)
    (h1 : (assignEach [.Subscript o i tp] X.env).map (·.2) = [assign (.Subscript o i tp) X.env] := by rfl) : RS X W (.Assign [.Subscript o i tp] a pos) (sStore fa fo fi) :=
  PS.imp (ps_asg hv (pg_sub ho hi set_list hg) hs hw h1) fun D σ H ⟨w, e, s, er, sm, q⟩ =>
  ⟨w, e, s, er, sm, (wrS_bind q er).mono fun v H1 ⟨w1, d1, s1, st1, sm1, r1, q1⟩ => ⟨w1, e, s1, er.step st1, sm1, (wrS_bind q1 (er.step st1)).mono fun u H2 ⟨w2, d2, s2, st2, sm2, r2, q2⟩ =>
    ⟨w2, e, s2, (er.step st1).step st2, sm2, (wrS_bind q2 ((er.step st1).step st2)).mono fun t H3 ⟨w3, d3, s3, st3, sm3, r3, q3⟩ => by
      cases c : setD d2 d3 d1 s3 with
      | none => simp only [c] at q3; exact q3.elim
      | some s4 =>
        simp only [c] at q3
        obtain ⟨p, xs, k, j, rfl, rfl, h1, h2, st, sm4⟩ := setD_ok sm3 (r2.step st3) r3 ((r1.step st2).step st3) c
        exact ⟨p, xs, k, j, rfl, rfl, h1, h2, q3 w3 _ st sm4 σ ((((er.step st1).step st2).step st3).step st)⟩⟩⟩⟩
theorem rs_aug {op : Operator} {r : R2} {p : D → D → S → Res D} {k : Nat} {x : Str} {pos' : Pos} (hN : X.N.Nodup) (hi : X.N[k]? = some x) (hx : Loc X.env.scope x) (ha : RE X W a fa) (ho : PIp X op r) (hp : P2 X r p)
    (hf : X.fn x = true ∨ X.env.scope.names.lookup x = some .local := by first | exact .inl rfl | exact .inr rfl | assumption) : RS X W (.AugAssign (.Name x pos') op a pos) (sAug k p fa) :=
  PS.imp (ps_aug hN hi hx ha ho hf) fun D σ H ⟨w, e, s, er, sm, q⟩ => by
    unfold sAug at q
    split at q
    · rename_i d c
      obtain ⟨v, e1, e2⟩ := er.get k d c
      refine ⟨v, e1, w, e, s, er, sm, (wrS_bind (f := fa) q er).mono fun u H1 ⟨w1, d1, s1, st1, sm1, r1, q1⟩ => ?_⟩
      have q1' := wrS_bind (T := TR X.K) (f := fun _ s => p d d1 s) (k := fun z e s => .ok (.nx (e.set k (some z))) s) q1 (er.step st1)
      refine hp w1 s1 H1 d d1 v u _ _ sm1 (e2.step st1) r1 (wr.mono q1' fun z H2 ⟨w2, d2, s2, st2, sm2, r2, q2⟩ => ?_)
      exact q2 w2 H2 Step.refl sm2 _ (((er.step st1).step st2).set r2)
    · exact q.elim
theorem pip_add : PIp X .Add (rI0 fun i j => .int (i + j)) := fun pins s σ H x y v u Q I rx ry h => iop_add pins s σ H x y v u Q I rx ry h
theorem pip_sub : PIp X .Sub (rI0 fun i j => .int (i - j)) := fun pins s σ H x y v u Q I rx ry h => iop_sub pins s σ H x y v u Q I rx ry h
def pAddI (x y : D) (s : S) : Res D := match x, y with
  | .int i, .int j => .ok (.int (i + j)) s
  | _, _ => .bad
theorem p_addI : P2 X (rI0 fun i j => .int (i + j)) pAddI := by
  intro w s H x y v u Q W sm rx ry q
  unfold pAddI at q
  split at q
  · cases rx; cases ry; exact ⟨_, _, rfl, rfl, wr_ok q sm (.int _)⟩
  · exact q.elim
theorem p_ixL : ∀ (w : Wd) (s : S) (H : Hp) (x y : D) (v u : V) (Q : VK) (W : Value → Option Addr → Hp → Prop), Sim X.K w s H → R X.K w H x v → R X.K w H y u → (∃ n, x = .ref n) → wr X.K X.mg (TR X.K) w H (pIx x y s) Q W → rIxL X.K v u H Q := by
  intro w s H x y v u Q W sm rx ry hn q
  obtain ⟨n, rfl⟩ := hn
  unfold pIx at q
  split at q
  · cases ry
    split at q
    · rename_i ds hds
      split at q
      · rename_i d hd
        obtain ⟨p, vs, rfl, e2, e3⟩ := rx.sq sm hds
        obtain ⟨z, e4, e5⟩ := e3.at hd
        exact ⟨p, vs, _, z, rfl, rfl, e2, e4, wr_ok q sm e5⟩
      · exact q.elim
    · exact q.elim
  · exact q.elim
theorem setD_ref {o i z : D} {s s' : S} (e : setD o i z s = some s') : ∃ n, o = .ref n := by
  unfold setD at e
  split at e
  · exact ⟨_, rfl⟩
  · cases e
theorem rs_augIx {op : Operator} {r : R2} {p : D → D → S → Res D} {tp : Pos} (ho : RE X W o fo) (hi : RE X W i fi) (ha : RE X W a fa) (hop : PIp X op r) (hp : P2 X r p)
    (hg : ∀ ov iv new, augStore i ov iv new = (do holding [new, ov, iv] (setItem ov iv new); release [new, ov, iv] []; pure .next) := by intros; rfl) :
    RS X W (.AugAssign (.Subscript o i tp) op a pos) (sAugIx p fo fi fa) :=
  PS.imp (ps_augS ho hi get_lst ha hop set_list hg) fun D σ H ⟨w, e, s, er, sm, q⟩ =>
  ⟨w, e, s, er, sm, (wrS_bind q er).mono fun v H1 ⟨w1, d1, s1, st1, sm1, r1, q1⟩ => ⟨w1, e, s1, er.step st1, sm1, (wrS_bind q1 (er.step st1)).mono fun u H2 ⟨w2, d2, s2, st2, sm2, r2, q2⟩ => by
    have er2 := (er.step st1).step st2
    cases d1 with
    | ref n =>
      simp only at q2
      refine p_ixL w2 s2 H2 _ d2 v u _ (fun c d H' => W c d σ H') sm2 (r1.step st2) r2 ⟨n, rfl⟩ ((wrS_bind (T := TR X.K) q2 er2).mono fun x H3 ⟨w3, d3, s3, st3, sm3, r3, q3⟩ => ?_)
      have er3 := er2.step st3
      refine ⟨w3, e, s3, er3, sm3, (wrS_bind q3 er3).mono fun y H4 ⟨w4, d4, s4, st4, sm4, r4, q4⟩ => ?_⟩
      have er4 := er3.step st4
      have q4' := wrS_bind (T := TR X.K) (f := fun _ s => p d3 d4 s) (k := fun z e s => match setD (.ref n) d2 z s with
        | some s' => .ok (.nx e) s'
        | none => .bad) q4 er4
      refine hp w4 s4 H4 d3 d4 x y _ _ sm4 (r3.step st4) r4 (wr.mono q4' fun z H5 ⟨w5, d5, s5, st5, sm5, r5, q5⟩ => ?_)
      cases c : setD (.ref n) d2 d5 s5 with
      | none => simp only [c] at q5; exact q5.elim
      | some s6 =>
        simp only [c] at q5
        obtain ⟨pp, xs, k, j, rfl, rfl, h1, h2, st, sm6⟩ := setD_ok sm5 ((((r1.step st2).step st3).step st4).step st5) (((r2.step st3).step st4).step st5) r5 c
        exact ⟨pp, xs, k, j, rfl, rfl, h1, h2, q5 w5 _ st sm6 σ ((er4.step st5).step st)⟩
    | _ => exact q2.elim⟩⟩
theorem rs_par {k j : Nat} {x y : Str} {px py pt : Pos} {kt k2 pt2} (hc : X.calm = true) (hN : X.N.Nodup) (hi : X.N[k]? = some x) (hj : X.N[j]? = some y) (hij : k ≠ j)
    (hx : X.env.scope.names.lookup x = some .local) (hy : X.env.scope.names.lookup y = some .local) (ha : RA X W [a, b] fs)
    (hw : swappedStores [.Tuple [.Name x px, .Name y py] kt pt] (.Tuple [a, b] k2 pt2) X.env = pure (some [x, y]))
    (hs : swapsWithSole [.Tuple [.Name x px, .Name y py] kt pt] (.Tuple [a, b] k2 pt2) pos.line X.env = pure false := by rfl) :
    RS X W (.Assign [.Tuple [.Name x px, .Name y py] kt pt] (.Tuple [a, b] k2 pt2) pos) (sPar k j fs) :=
  PS.imp (ps_par hc hN hi hj hij hx hy ha hw hs) fun D σ H ⟨w, e, s, er, sm, q⟩ =>
  ⟨w, e, s, er, sm, (wrS_bind q er).mono fun vs H1 ⟨w1, d1, s1, st1, sm1, r1, q1⟩ => by
    split at q1
    · cases r1 with
      | cons r rs =>
        cases rs with
        | cons r' rs =>
          cases rs
          exact ⟨_, _, rfl, q1 w1 H1 Step.refl sm1 _ (((er.step st1).set r).set r')⟩
    · exact q1.elim⟩
end
end Cf

set_option Elab.async false
set_option linter.all false
set_option maxRecDepth 100000
set_option maxHeartbeats 4000000
/-! Cf, part I: tests by comparisons, targets, callees, double comprehensions. -/
namespace Cf
open PySem PySem.Spec L2
open PyProof.Rows hiding St

def bB (f : Ev) : Eb := fun e s => (f e s).bind fun d s => match d with
  | .bl b => .ok b s
  | _ => .bad
def pIsB (x y : D) (s : S) : Res D := match x, y with
  | .bl a, .bl b => .ok (.bl (decide (a = b))) s
  | _, _ => .bad
def pNsB (x y : D) (s : S) : Res D := match x, y with
  | .bl a, .bl b => .ok (.bl (!decide (a = b))) s
  | _, _ => .bad
section
variable {X : Cx} {W : WX} {a b c : Expr} {fa fb fc : Ev} {pos : Pos}
theorem tt_of {t : TE} {f : Ev} (hi : ∀ σ H Q, tE X.K X.mg W f σ H Q → t σ H Q) : ∀ σ H Q, tT X.K X.mg W (bB f) σ H Q → tTest t σ H Q := fun σ H Q ⟨w, e, s, er, sm, q⟩ =>
  hi σ H _ ⟨w, e, s, er, sm, (wr_bind q).mono fun v H1 ⟨w1, d1, s1, st1, sm1, r1, q1⟩ => by
    cases d1 with
    | bl k => cases r1; exact ⟨k, rfl, q1 w1 k H1 Step.refl sm1 rfl⟩
    | _ => exact q1.elim⟩
theorem rt_cmp {op : CmpOp} {r : R2} {p : D → D → S → Res D} (ho : OpR X (compareOp op) r) (hp : P2 X r p) (ha : RE X W a fa) (hb : RE X W b fb) (hm : behindInMarks op b = false) : RT X W (.Compare a [op] [b] pos) (bB (e2 p fa fb)) :=
  PT.imp (pt_cmpR ho ha hb hm) (tt_of (imp2 hp))
theorem impCh {r r' : R2} {p p' : D → D → S → Res D} (hp : P2 X r p) (hp' : P2 X r' p') : ∀ σ H Q, tE X.K X.mg W (eCh p p' fa fb fc) σ H Q → tChain r r' (tE X.K X.mg W fa) (tE X.K X.mg W fb) (tE X.K X.mg W fc) σ H Q := fun σ H Q ⟨w, e, s, er, sm, q⟩ =>
  ⟨w, e, s, er, sm, (wr_bind q).mono fun v H1 ⟨w1, d1, s1, st1, sm1, r1, q1⟩ => ⟨w1, e, s1, er.step st1, sm1, (wr_bind q1).mono fun u H2 ⟨w2, d2, s2, st2, sm2, r2, q2⟩ =>
    hp w2 s2 H2 d1 d2 v u _ (fun c d H' => W c d σ H') sm2 (r1.step st2) r2 ((wr_bind (T := TR X.K) q2).mono fun z H3 ⟨w3, d3, s3, st3, sm3, r3, q3⟩ => by
      cases d3 with
      | bl k =>
        cases r3
        refine ⟨k, rfl, ?_⟩
        cases k with
        | true =>
          refine ⟨w3, e, s3, ((er.step st1).step st2).step st3, sm3, (wr_bind (T := TR X.K) q3).mono fun y H4 ⟨w4, d4, s4, st4, sm4, r4, q4⟩ => ?_⟩
          exact hp' w4 s4 H4 d2 d4 u y Q _ sm4 ((r2.step st3).step st4) r4 q4
        | false => exact q3 w3 (.bl false) H3 Step.refl sm3 (.bl false)
      | _ => exact q3.elim)⟩⟩
theorem rt_chain {op op' : CmpOp} {r r' : R2} {p p' : D → D → S → Res D} (ho : OpR X (compareOp op) r) (hp : P2 X r p) (ho' : OpR X (compareOp op') r') (hp' : P2 X r' p') (ha : RE X W a fa) (hb : RE X W b fb) (hc : RE X W c fc)
    (hm : lastMarks [op, op'] [b, c] = false := by with_unfolding_all rfl) : RT X W (.Compare a [op, op'] [b, c] pos) (bB (eCh p p' fa fb fc)) := PT.imp (pt_chain ho ho' ha hb hc hm) (tt_of (impCh hp hp'))
theorem p_isB : P2 X rIsB pIsB := by
  intro w s H x y v u Q W sm rx ry q
  unfold pIsB at q
  split at q
  · cases rx; cases ry; exact ⟨_, _, rfl, rfl, wr_ok q sm (.bl _)⟩
  · exact q.elim
theorem p_nsB : P2 X rNotB pNsB := by
  intro w s H x y v u Q W sm rx ry q
  unfold pNsB at q
  split at q
  · cases rx; cases ry; exact ⟨_, _, rfl, rfl, wr_ok q sm (.bl _)⟩
  · exact q.elim
/-! targets -/
theorem tg_nm {i : Nat} {x : Str} (hN : X.N.Nodup) (hi : X.N[i]? = some x) (hx : Loc X.env.scope x) (hf : X.fn x = true ∨ X.env.scope.names.lookup x = some .local := by first | exact .inl rfl | exact .inr rfl | assumption) : PG X (.Name x pos) (tgOf X.K (.nm i)) := by
  have h := pg_name (pos := pos) hN hi hx hf
  simpa only [tgOf] using h
theorem tgs_nil : PGs X [] (tgsOf X.K []) := by simpa only [tgsOf] using (pgs_nil (X := X))
theorem tgs_cons {e : Expr} {es : List Expr} {t : Tgt} {ts : List Tgt} (h1 : PG X e (tgOf X.K t)) (h2 : PGs X es (tgsOf X.K ts)) (hs : (assignEach (e :: es) X.env).map (·.2) = assign e X.env :: (assignEach es X.env).map (·.2) := by rfl) : PGs X (e :: es) (tgsOf X.K (t :: ts)) := by
  simpa only [tgsOf] using pgs_cons h1 h2 hs
theorem tg_tp {es : List Expr} {k : Nat} {ts : List Tgt} (hc : X.calm = true) (h : PGs X es (tgsOf X.K ts)) (hn : (assignEach es X.env).length = tgLen ts := by rfl) (hst : (assignEach es X.env).findIdx? (·.1) = none := by rfl) : PG X (.Tuple es k pos) (tgOf X.K (.tp ts)) := by
  simpa only [tgOf] using pg_tup (pos := pos) hc h hn hst
theorem tg_tl {es : List Expr} {k : Nat} {ts : List Tgt} (hc : X.calm = true) (h : PGs X es (tgsOf X.K ts)) (hn : (assignEach es X.env).length = tgLen ts := by rfl) (hst : (assignEach es X.env).findIdx? (·.1) = none := by rfl) : PG X (.Tuple es k pos) (tgOf X.K (.tl ts)) := by
  simpa only [tgOf] using pg_lst (pos := pos) hc h hn hst
theorem pts_if {e : Expr} {g : Eb} (h : RT X W e g) : PTs X [e] (tT X.K X.mg W g) := pts_one h
end
/-! callees -/
structure Cal (P : Program) (w : World) (K : PySem.W.Frag) (mg : Str → Option Value) (base : Heap) (x : Str) (k n : Nat) (M : List D → S → Res D) : Prop where
  ex : ∃ f fd ps, FnOk P w K mg base (L2.CX P w) k f fd ps (spOf K mg M n) ∧ mg x = some (.ref f) ∧ PySem.W.keepIn K (.ref f) = true ∧ Binds K fd ps []
section
variable {P : Program} {w : World} {K : PySem.W.Frag} {mg : Str → Option Value} {base : Heap}
theorem cal_of {x qual : Str} {st : Stmt} {f : Addr} {fd : FuncData} {N ps : List Str} {k : Nat} {g : Es} (F : Fun K x qual st f fd) (hm : mg x = some (.ref f)) (hb : Binds K fd ps []) (S : FnScope N ps (defScope st))
    (h : ∀ (cdv : Value) (A : Around) (outer : List Env) (s : Shared) (H : Hp) (E : XK), Room k (A.deeper (envOfC qual (defScope st) s.heap.objs.size f cdv)) →
      RSs (cxOf (L2.CX P w) P w K mg base N qual (defScope st) f cdv A outer s H E) (fun cls d _ H => E cls d H) (defBody st) g) : Cal P w K mg base x (k + 1) ps.length (runD N.length g) :=
  ⟨f, fd, ps, def_ok F S h, hm, F.kp, hb⟩
end
section
variable {X : Cx} {W : WX} {a : Expr} {es : List Expr} {fs : Ea} {pos : Pos}
theorem re_cal {j k n : Nat} {M : List D → S → Res D} {x : Str} {p : Pos} (c : Cal X.prog X.w X.K X.mg X.base x k n M) (hr : Room j X.A) (hj : k ≤ j) (hg : Gl X x) (tk : Takes X W) (ha : RA X W (a :: es) fs) (hdb : (x == ("__debug__" : Str)) = false := by decide)
    (he : starEach (a :: es) X.env = (false, eval a X.env) :: starEach es X.env := by rfl) (hpl : (backTo pos (starEach es X.env)).any (·.1) = false := by rfl) : RE X W (.Call (.Name x p) (a :: es) [] pos) (eF n M fs) := by
  obtain ⟨f, fd, ps, F, hm, hk, hb⟩ := c.ex
  exact re_call F (hr.mono hj) hg hm hk hb tk ha hdb he hpl
end

/-! ### two fors in one comprehension -/
def compO (it : Wlk) (t : Tgt) (c : Eb) (fi1 : Ei) (vs1 : List Nat) (t1 : Tgt) (c1 : Eb) (f : Ev) : Nat → Nat → En → S → Res (List D)
  | k, i => fun e s => match nextIt it i s with
    | some none => .ok [] s
    | some (some d) => match k with
      | 0 => .bad
      | k + 1 => match asg t d e with
        | some e1 => (noX (c e1 s)).bind fun b s1 => if b then (noX (fi1 e1 s1)).bind fun it1 s2 => if it1.len ≤ 4000 then (compI it1 t1 c1 f it1.len 0 (wipeE e1 vs1) s2).bind fun xs s3 => (compO it t c fi1 vs1 t1 c1 f k (i + 1) e s3).bind fun ys s4 => .ok (xs ++ ys) s4 else .bad
            else compO it t c fi1 vs1 t1 c1 f k (i + 1) e s1
        | none => .bad
    | none => .bad
/-- [f for t in it if c for t1 in it1 if c1] -/
def eLc2 (k : Bool) (fi : Ei) (vs : List Nat) (t : Tgt) (c : Eb) (fi1 : Ei) (vs1 : List Nat) (t1 : Tgt) (c1 : Eb) (f : Ev) : Ev := fun e s => (fi e s).bind fun it s => if it.len ≤ 4000 then (compO it t c fi1 vs1 t1 c1 f it.len 0 (wipeE e vs) s).bind (mkL k) else .bad
theorem wipe_at {σ : St} {j : Nat} : ∀ {vs : List Nat}, j ∈ vs → (L2.wipe σ vs)[j]? = if j < σ.length then some none else none
  | [], h => by cases h
  | u :: us, h => by
    show ((L2.wipe σ us).set u none)[j]? = _
    by_cases hu : u = j
    · subst hu
      rw [List.getElem?_set]
      simp [L2.wipe_length]
    · rw [List.getElem?_set_ne hu]
      exact wipe_at (by rcases List.mem_cons.mp h with y | y; exact absurd y.symm hu; exact y)
theorem wipe_wipe (σ : St) (vs : List Nat) : L2.wipe (L2.wipe σ vs) vs = L2.wipe σ vs := by
  apply List.ext_getElem?
  intro j
  by_cases hj : j ∈ vs
  · rw [wipe_at hj, wipe_at hj]
    simp [L2.wipe_length]
  · rw [L2.wipe_out hj]
theorem PStep.grownP {w w' : Wd} {H H' : Hp} {A : Addr} {xs ys : List V} (st : PStep w H w' H') (hA : A ∈ w.χ) (hl : H A = some (.lst xs)) : PStep w H w' (upd H' A (.lst ys)) where
  pre := st.pre
  chiS := st.chiS
  chi := st.chi
  keep := fun a o e m c => by rw [upd_ne (fun q => c (by rw [q]; exact hA))]; exact st.keep a o e m c
  there := fun a o e => by
    by_cases h : a = A
    · rw [h]; exact ⟨_, upd_same⟩
    · obtain ⟨o', q⟩ := st.there a o e
      exact ⟨o', by rw [upd_ne h]; exact q⟩
  fresh := st.fresh
section
variable {X : Cx} {W : WX} {tg iter elt tg1 iter1 : Expr} {fi fi1 : Ei} {t t1 : Tgt} {c c1 : Eb} {f : Ev} {pos : Pos}
theorem line4000 : 4000 * 4000 < sizeLine := by rw [sizeLine_eq]; decide
theorem comp2_imp {kk : Bool} {vs vs1 : List Nat} (hv : inT vs t = true) (hv1 : inT vs1 t1 = true) : ∀ σ H Q, tE X.K X.mg W (eLc2 kk fi vs t c fi1 vs1 t1 c1 f) σ H Q →
    tLc2 (tG X.K X.mg (fun w H it J => ItOk X.K w H it J) W fi) (tgOf X.K t) (tT X.K X.mg W0 c) (tG X.K X.mg (fun w H it J => ItOk X.K w H it J) W0 fi1) (tgOf X.K t1) (tT X.K X.mg W0 c1) (tE X.K X.mg W0 f) vs vs1 σ H Q := by
  rintro σ H Q ⟨w, e, s, er, sm, q⟩
  refine ⟨w, e, s, er, sm, (wr_bind q).mono fun J H1 ⟨w1, it, s1, st1, sm1, ok, q1⟩ => ?_⟩
  have er1 := er.step st1
  intro A nA
  by_cases hz : it.len ≤ 4000
  · rw [if_pos hz] at q1
    have nAρ : ∀ {w' : Wd} {H'' : Hp} {s' : S}, Sim X.K w' s' H'' → A ∈ w'.χ → A ∉ w'.ρ := fun sm hA => (sm.chi A hA).1
    refine ⟨fun i m H => ∃ w s acc us, Step w1 H1 w H ∧ A ∈ w.χ ∧ Sim X.K w s H ∧ H A = some (.lst us) ∧ Rs X.K w H acc us ∧ us.length ≤ i * 4000 ∧ i + m ≤ it.len ∧
      wr X.K X.mg (TR X.K) w1 H1 ((compO it t c fi1 vs1 t1 c1 f m i (wipeE e vs) s).bind fun ys s' => mkL kk (acc ++ ys) s') Q (fun c d H' => W c d σ H'),
      ⟨it.len, ⟨w1.ρ, A :: w1.χ⟩, s1, [], [], Step.begin sm1 nA, List.mem_cons_self, sm1.begin nA, upd_same, .nil, Nat.zero_le _, by omega, q1⟩, ?_⟩
    rintro i m H ⟨w, s, acc, us, st, hA, sm, hl, racc, hus, him, q⟩
    unfold compO at q
    cases z : nextIt it i s with
    | none => simp only [z, Res.bind_bad] at q; exact q.elim
    | some o =>
      cases o with
      | none =>
        simp only [z, Res.bind_ok, List.append_nil] at q
        exact .inl ⟨ok.stop w s H i st.p sm z, made_end q st (.inr ⟨s1, sm1⟩) sm hA nA hl racc⟩
      | some d =>
        obtain ⟨g1, g2⟩ := ok.go w s H i d st.p sm z
        cases m with
        | zero => simp only [z, Res.bind_bad] at q; exact q.elim
        | succ m =>
          simp only [z] at q
          cases za : asg t d (wipeE e vs) with
          | none => simp only [za, Res.bind_bad] at q; exact q.elim
          | some e1 =>
            simp only [za] at q
            refine .inr ⟨g1, fun H => ∃ w s acc us, Step w1 H1 w H ∧ A ∈ w.χ ∧ Sim X.K w s H ∧ H A = some (.lst us) ∧ Rs X.K w H acc us ∧ us.length ≤ (i + 1) * 4000 ∧ i + 1 + m ≤ it.len ∧
              wr X.K X.mg (TR X.K) w1 H1 ((compO it t c fi1 vs1 t1 c1 f m (i + 1) (wipeE e vs) s).bind fun ys s' => mkL kk (acc ++ ys) s') Q (fun c d H' => W c d σ H'), fun H' hh => ⟨m, Nat.lt_succ_self m, hh⟩, fun x H' hy => ?_⟩
            obtain ⟨st2, sm2, r2⟩ := g2 x H' hy
            have stx := st.trans st2
            have hl2 : H' A = some (.lst us) := st2.keep A _ hl (nAρ sm hA)
            refine tg_ok t d (wipeE e vs) e1 x (L2.wipe σ vs) vs _ r2 ((er1.step stx).wipe vs) za (.inl hv) fun σ2 er2 hw2 => ⟨by rw [hw2 hv]; exact wipe_wipe σ vs, w, e1, s, er2, sm2, ?_⟩
            cases zc : c e1 s with
            | exc x s' => simp only [zc, noX, Res.bind_bad] at q; exact q.elim
            | bad => simp only [zc, noX, Res.bind_bad] at q; exact q.elim
            | ok b s3 =>
              simp only [zc, noX_ok, Res.bind_ok] at q
              intro w3 b' H3 st3 sm3 eb
              cases eb
              have hA3 : A ∈ w3.χ := st3.chiS A hA
              have hl3 : H3 A = some (.lst us) := st3.keep A _ hl2 (nAρ sm2 hA)
              have racc3 := (racc.step st2).step st3
              have stx3 := stx.trans st3
              cases b with
              | false =>
                rw [if_neg Bool.false_ne_true] at q ⊢
                exact ⟨w3, s3, acc, us, stx3, hA3, sm3, hl3, racc3, by omega, by omega, q⟩
              | true =>
                rw [if_pos rfl] at q ⊢
                refine ⟨w3, e1, s3, er2.step st3, sm3, ?_⟩
                cases zi : fi1 e1 s3 with
                | exc x s' => simp only [zi, noX, Res.bind_bad] at q; exact q.elim
                | bad => simp only [zi, noX, Res.bind_bad] at q; exact q.elim
                | ok it1 s4 =>
                  simp only [zi, noX_ok, Res.bind_ok] at q
                  intro w4 J1 H4 st4 sm4 ok1
                  by_cases hz1 : it1.len ≤ 4000
                  · rw [if_pos hz1] at q
                    have hA4 : A ∈ w4.χ := st4.chiS A hA3
                    have hl4 : H4 A = some (.lst us) := st4.keep A _ hl3 (nAρ sm3 hA3)
                    have hl4' := hl4
                    have stx4 := stx3.trans st4
                    have er4 := (er2.step st3).step st4
                    have eq0 : ((compI it1 t1 c1 f it1.len 0 (wipeE e1 vs1) s4).bind fun xs s3 => (compO it t c fi1 vs1 t1 c1 f m (i + 1) (wipeE e vs) s3).bind fun ys s4 => Res.ok (xs ++ ys) s4).bind (fun ys s' => mkL kk (acc ++ ys) s') =
                        (compI it1 t1 c1 f it1.len 0 (wipeE e1 vs1) s4).bind fun xs s3 => (compO it t c fi1 vs1 t1 c1 f m (i + 1) (wipeE e vs) s3).bind fun ys s4 => mkL kk (acc ++ xs ++ ys) s4 := by
                      cases compI it1 t1 c1 f it1.len 0 (wipeE e1 vs1) s4 with
                      | ok xs s5 =>
                        simp only [Res.bind_ok]
                        cases compO it t c fi1 vs1 t1 c1 f m (i + 1) (wipeE e vs) s5 with
                        | ok ys s6 => simp
                        | exc x s6 => rfl
                        | bad => rfl
                      | exc x s5 => rfl
                      | bad => rfl
                    rw [eq0] at q
                    refine ⟨fun j k H => ∃ w s acc us, PStep w4 H4 w H ∧ Step w1 H1 w H ∧ A ∈ w.χ ∧ Sim X.K w s H ∧ H A = some (.lst us) ∧ Rs X.K w H acc us ∧ us.length ≤ i * 4000 + j ∧ j + k ≤ it1.len ∧
                      wr X.K X.mg (TR X.K) w1 H1 ((compI it1 t1 c1 f k j (wipeE e1 vs1) s).bind fun xs s3 => (compO it t c fi1 vs1 t1 c1 f m (i + 1) (wipeE e vs) s3).bind fun ys s4 => mkL kk (acc ++ xs ++ ys) s4) Q (fun c d H' => W c d σ H'),
                      ⟨it1.len, w4, s4, acc, us, Step.refl.p, stx4, hA4, sm4, hl4, racc3.step st4, by omega, by omega, q⟩, ?_⟩
                    clear q eq0 hl4 hl3 hl2 hl racc3 racc
                    rintro j k H ⟨w, s, acc, us, pst, st, hA, sm, hl, racc, hus, hjk, q⟩
                    unfold compI at q
                    cases z : nextIt it1 j s with
                    | none => simp only [z, Res.bind_bad] at q; exact q.elim
                    | some o =>
                      cases o with
                      | none =>
                        simp only [z, Res.bind_ok, List.append_nil] at q
                        refine .inl ⟨ok1.stop w s H j pst sm z, w, s, acc, us, st, hA, sm, hl, racc, ?_, by omega, q⟩
                        have hj : j ≤ it1.len := by omega
                        have : (i + 1) * 4000 = i * 4000 + 4000 := by omega
                        omega
                      | some d =>
                        obtain ⟨g1, g2⟩ := ok1.go w s H j d pst sm z
                        cases k with
                        | zero => simp only [z, Res.bind_bad] at q; exact q.elim
                        | succ k =>
                          simp only [z] at q
                          cases za : asg t1 d (wipeE e1 vs1) with
                          | none => simp only [za, Res.bind_bad] at q; exact q.elim
                          | some e5 =>
                            simp only [za] at q
                            refine .inr ⟨g1, fun H => ∃ w s acc us, PStep w4 H4 w H ∧ Step w1 H1 w H ∧ A ∈ w.χ ∧ Sim X.K w s H ∧ H A = some (.lst us) ∧ Rs X.K w H acc us ∧ us.length ≤ i * 4000 + (j + 1) ∧ j + 1 + k ≤ it1.len ∧
                              wr X.K X.mg (TR X.K) w1 H1 ((compI it1 t1 c1 f k (j + 1) (wipeE e1 vs1) s).bind fun xs s3 => (compO it t c fi1 vs1 t1 c1 f m (i + 1) (wipeE e vs) s3).bind fun ys s4 => mkL kk (acc ++ xs ++ ys) s4) Q (fun c d H' => W c d σ H'), fun H' hh => ⟨k, Nat.lt_succ_self k, hh⟩, fun x H' hy => ?_⟩
                            obtain ⟨st5, sm5, r5⟩ := g2 x H' hy
                            have stx := st.trans st5
                            have pstx := pst.trans st5
                            have hl5 : H' A = some (.lst us) := st5.keep A _ hl (nAρ sm hA)
                            refine tg_ok t1 d (wipeE e1 vs1) e5 x (L2.wipe σ2 vs1) vs1 _ r5 ((er4.pstep pstx).wipe vs1) za (.inl hv1) fun σ5 er5 hw5 => ⟨by rw [hw5 hv1]; exact wipe_wipe σ2 vs1, w, e5, s, er5, sm5, ?_⟩
                            cases zc : c1 e5 s with
                            | exc x s' => simp only [zc, noX, Res.bind_bad] at q; exact q.elim
                            | bad => simp only [zc, noX, Res.bind_bad] at q; exact q.elim
                            | ok b s6 =>
                              simp only [zc, noX_ok, Res.bind_ok] at q
                              intro w6 b' H6 st6 sm6 eb
                              cases eb
                              have hA6 : A ∈ w6.χ := st6.chiS A hA
                              have hl6 : H6 A = some (.lst us) := st6.keep A _ hl5 (nAρ sm5 hA)
                              have racc6 := (racc.step st5).step st6
                              cases b with
                              | false =>
                                rw [if_neg Bool.false_ne_true] at q ⊢
                                exact ⟨w6, s6, acc, us, pstx.trans st6, stx.trans st6, hA6, sm6, hl6, racc6, by omega, by omega, q⟩
                              | true =>
                                rw [if_pos rfl] at q ⊢
                                refine ⟨w6, e5, s6, er5.step st6, sm6, ?_⟩
                                cases zf : f e5 s6 with
                                | exc x s' => simp only [zf, noX, Res.bind_bad] at q; exact q.elim
                                | bad => simp only [zf, noX, Res.bind_bad] at q; exact q.elim
                                | ok y s7 =>
                                  simp only [zf, noX_ok, Res.bind_ok] at q
                                  intro w7 v H7 st7 sm7 r7
                                  have hA7 : A ∈ w7.χ := st7.chiS A hA6
                                  have hl7 : H7 A = some (.lst us) := st7.keep A _ hl6 (nAρ sm6 hA6)
                                  have ll := line4000
                                  have hi1 : i < 4000 := by omega
                                  have hi2 : i * 4000 + 4000 ≤ 4000 * 4000 := by omega
                                  refine ⟨us, hl7, by omega, w7, s7, acc ++ [y], us ++ [v], ((pstx.trans st6).trans st7).grownP hA4 hl4', ((stx.trans st6).trans st7).grown nA, hA7, sm7.pin hA7 hl7, upd_same, Rs.pin hA7 hl7 ((racc6.step st7).append (.cons r7 .nil)), by simp; omega, by omega, ?_⟩
                                  have eq : (((compI it1 t1 c1 f k (j + 1) (wipeE e1 vs1) s7).bind fun ys s3 => Res.ok (y :: ys) s3).bind fun xs s3 => (compO it t c fi1 vs1 t1 c1 f m (i + 1) (wipeE e vs) s3).bind fun ys s4 => mkL kk (acc ++ xs ++ ys) s4) =
                                      (compI it1 t1 c1 f k (j + 1) (wipeE e1 vs1) s7).bind fun xs s3 => (compO it t c fi1 vs1 t1 c1 f m (i + 1) (wipeE e vs) s3).bind fun ys s4 => mkL kk (acc ++ [y] ++ xs ++ ys) s4 := by
                                    cases compI it1 t1 c1 f k (j + 1) (wipeE e1 vs1) s7 with
                                    | ok ys s5 => simp
                                    | exc x s5 => rfl
                                    | bad => rfl
                                  rw [eq] at q
                                  exact q
                  · rw [if_neg hz1] at q
                    exact q.elim
  · rw [if_neg hz] at q1
    exact q1.elim
theorem re_lc2 {k : Bool} {ifs ifs1 : List Expr} {scope : Scope} {own : List (Str × Nat)} {vs1 : List Nat} (hv : inT (own.map (·.2)) t = true) (hv1 : inT vs1 t1 = true) (hc : X.calm = true) (hN : X.N.Nodup) (hi : RI X W tg iter fi) (ok : BlkOk X.N X.env.scope scope own) (hsub : ∀ i ∈ vs1, i ∈ own.map (·.2))
    (hg : ∀ (s : Shared) (H : Hp) (C : Addr) (cl : List (Str × Addr)) (fp : List Addr), PG (X.blk s H scope (compEnvC scope cl C X.env) fp) tg (tgOf X.K t))
    (ht : ∀ (s : Shared) (H : Hp) (C : Addr) (cl : List (Str × Addr)) (fp : List Addr), PTs (X.blk s H scope (compEnvC scope cl C X.env) fp) ifs (tT X.K X.mg W0 c))
    (hi1 : ∀ (s : Shared) (H : Hp) (C : Addr) (cl : List (Str × Addr)) (fp : List Addr), RI (X.blk s H scope (compEnvC scope cl C X.env) fp) W0 tg1 iter1 fi1)
    (hg1 : ∀ (s : Shared) (H : Hp) (C : Addr) (cl : List (Str × Addr)) (fp : List Addr), PG (X.blk s H scope (compEnvC scope cl C X.env) fp) tg1 (tgOf X.K t1))
    (ht1 : ∀ (s : Shared) (H : Hp) (C : Addr) (cl : List (Str × Addr)) (fp : List Addr), PTs (X.blk s H scope (compEnvC scope cl C X.env) fp) ifs1 (tT X.K X.mg W0 c1))
    (he : ∀ (s : Shared) (H : Hp) (C : Addr) (cl : List (Str × Addr)) (fp : List Addr), RE (X.blk s H scope (compEnvC scope cl C X.env) fp) W0 elt f) (hs : ∀ x, foldedSetIterable iter X.env x = pure x := by intro _; rfl) (hs1 : ∀ env x, foldedSetIterable iter1 env x = pure x := by intro _ _; rfl) :
    RE X W (.ListComp elt [⟨tg, iter, ifs, 0⟩, ⟨tg1, iter1, ifs1, 0⟩] scope pos) (eLc2 k fi (own.map (·.2)) t c fi1 vs1 t1 c1 f) := PE.imp (pe_lc2 hc hN hi ok hsub hg ht hi1 hg1 ht1 he hs hs1) (comp2_imp hv hv1)
theorem rs_setLc2 {k : Bool} {i : Nat} {y : Str} {py spos : Pos} {ifs ifs1 : List Expr} {scope : Scope} {own : List (Str × Nat)} {vs1 : List Nat} (hv : inT (own.map (·.2)) t = true) (hv1 : inT vs1 t1 = true) (hc : X.calm = true) (hN : X.N.Nodup) (hy : X.N[i]? = some y) (hyl : X.env.scope.names.lookup y = some .local)
    (hsw : swapsWith (.ListComp elt [⟨tg, iter, ifs, 0⟩, ⟨tg1, iter1, ifs1, 0⟩] scope pos) (some (.Name y py)) spos.line X.env = pure true) (hi : RI X W tg iter fi) (ok : BlkOk X.N X.env.scope scope own) (hsub : ∀ i ∈ vs1, i ∈ own.map (·.2))
    (hg : ∀ (s : Shared) (H : Hp) (C : Addr) (cl : List (Str × Addr)) (fp : List Addr), PG (X.blk s H scope (compEnvC scope cl C X.env) fp) tg (tgOf X.K t))
    (ht : ∀ (s : Shared) (H : Hp) (C : Addr) (cl : List (Str × Addr)) (fp : List Addr), PTs (X.blk s H scope (compEnvC scope cl C X.env) fp) ifs (tT X.K X.mg W0 c))
    (hi1 : ∀ (s : Shared) (H : Hp) (C : Addr) (cl : List (Str × Addr)) (fp : List Addr), RI (X.blk s H scope (compEnvC scope cl C X.env) fp) W0 tg1 iter1 fi1)
    (hg1 : ∀ (s : Shared) (H : Hp) (C : Addr) (cl : List (Str × Addr)) (fp : List Addr), PG (X.blk s H scope (compEnvC scope cl C X.env) fp) tg1 (tgOf X.K t1))
    (ht1 : ∀ (s : Shared) (H : Hp) (C : Addr) (cl : List (Str × Addr)) (fp : List Addr), PTs (X.blk s H scope (compEnvC scope cl C X.env) fp) ifs1 (tT X.K X.mg W0 c1))
    (he : ∀ (s : Shared) (H : Hp) (C : Addr) (cl : List (Str × Addr)) (fp : List Addr), RE (X.blk s H scope (compEnvC scope cl C X.env) fp) W0 elt f) (hs : ∀ x, foldedSetIterable iter X.env x = pure x := by intro _; rfl) (hs1 : ∀ env x, foldedSetIterable iter1 env x = pure x := by intro _ _; rfl) :
    RS X W (.Assign [.Name y py] (.ListComp elt [⟨tg, iter, ifs, 0⟩, ⟨tg1, iter1, ifs1, 0⟩] scope pos) spos) (sSet i (eLc2 k fi (own.map (·.2)) t c fi1 vs1 t1 c1 f)) := PS.imp (ps_setLc2 hc hN hy hyl hsw hi ok hsub hg ht hi1 hg1 ht1 he hs hs1) fun D σ H ⟨w, e, s, er, sm, q⟩ => by
  refine comp2_imp (W := W) hv hv1 σ H _ ⟨w, e, s, er, sm, (wrS_bind q er).mono fun v H1 ⟨w1, d1, s1, st1, sm1, r1, q1⟩ => q1 w1 H1 Step.refl sm1 _ ((er.step st1).set r1)⟩
end
/-! ### a list or a tuple walked; lists of ranges -/
def itSq (d : D) (s : S) : Res Wlk := match d with
  | .tup xs => .ok (.seq xs) s
  | d => itOf d s
def pLRg (c : Bool) (xs : List D) (s : S) : Res D := match xs with
  | [.int j] => if -(2 ^ 62) ≤ j ∧ j ≤ 16777216 then mkL c ((List.range j.toNat).map fun (i : Nat) => D.int (0 + i)) s else .bad
  | [.int i, .int j] => if 0 ≤ i ∧ i ≤ 16777216 ∧ 0 ≤ j ∧ j ≤ 16777216 then mkL c ((List.range (j - i).toNat).map fun (k : Nat) => D.int (i + k)) s else .bad
  | _ => .bad
section
variable {X : Cx} {W : WX} {tg a b : Expr} {fa fb : Ev} {pos : Pos}
theorem ri_seq (ha : RE X W a fa) : RI X W tg a (eIt itSq fa) := ⟨fun pins s σ H R I ⟨w, e, s', er, sm, q⟩ => by
  have q0 := q
  unfold eIt at q
  cases c : fa e s' with
  | ok d s1 =>
    rw [c] at q
    cases d with
    | tup xs => exact (ri_tup ha).run pins s σ H R I ⟨w, e, s', er, sm, by unfold eIt; rw [c]; exact q⟩
    | _ => exact (ri_list ha).run pins s σ H R I ⟨w, e, s', er, sm, by unfold eIt; rw [c]; exact q⟩
  | exc x s1 => rw [c] at q; exact (ri_list ha).run pins s σ H R I ⟨w, e, s', er, sm, by unfold eIt; rw [c]; exact q⟩
  | bad => rw [c] at q; exact q.elim⟩
theorem rs_rgV {K : PySem.W.Frag} {w : Wd} {H : Hp} (i j : Int) : Rs K w H ((List.range (j - i).toNat).map fun (k : Nat) => D.int (i + k)) (rgV i j) := by
  unfold rgV
  generalize (j - i).toNat = n
  have go : ∀ l : List Nat, Rs K w H (l.map fun (k : Nat) => D.int (i + k)) (l.map fun k => V.int (i + (k : Nat))) := by
    intro l
    induction l with
    | nil => exact .nil
    | cons x xs ih => exact .cons (.int _) ih
  exact go _
theorem re_listRg1 {k : Bool} {p p2 pos2 : Pos} (hc : X.calm = true) (hg : Gl X "list") (hm : X.mg "list" = none) (hg2 : Gl X "range") (hm2 : X.mg "range" = none) (ha : RE X W a fa) (na : starEach [a] X.env = (false, eval a X.env) :: starEach [] X.env := by rfl)
    (na2 : starEach [.Call (.Name "range" p2) [a] [] pos2] X.env = (false, eval (.Call (.Name "range" p2) [a] [] pos2) X.env) :: starEach [] X.env := by rfl) : RE X W (.Call (.Name "list" p) [.Call (.Name "range" p2) [a] [] pos2] [] pos) (eA (pLRg k) (eK fa eN)) :=
  PE.imp (pe_listRg hc hg hm (prg_1 hg2 hm2 ha na) na2) fun σ H Q ⟨w, e, s, er, sm, q⟩ =>
  ⟨w, e, s, er, sm, by
    have e1 : eA (pLRg k) (eK fa eN) e s = (fa e s).bind fun d s => pLRg k [d] s := by
      unfold eA eK eN
      cases fa e s <;> rfl
    rw [e1] at q
    refine (wr_bind q).mono fun v H1 ⟨w1, d1, s1, st1, sm1, r1, q1⟩ => ?_
    unfold pLRg at q1
    split at q1
    · rename_i j hj
      cases hj
      cases r1
      split at q1
      · rename_i hj
        refine ⟨j, rfl, ⟨by omega, by omega, by omega, by omega, by omega⟩, wr_newLst q1 sm1 ?_⟩
        have := rs_rgV (K := X.K) (w := w1) (H := H1) 0 j
        rw [Int.sub_zero] at this
        exact this
      · exact q1.elim
    · rename_i h; cases h
    · exact q1.elim⟩
theorem re_listRg2 {k : Bool} {p p2 pos2 : Pos} (hc : X.calm = true) (hg : Gl X "list") (hm : X.mg "list" = none) (hg2 : Gl X "range") (hm2 : X.mg "range" = none) (ha : RE X W a fa) (hb : RE X W b fb) (na : starEach [a, b] X.env = (false, eval a X.env) :: starEach [b] X.env := by rfl)
    (nb : starEach [b] X.env = (false, eval b X.env) :: starEach [] X.env := by rfl) (hp : (backTo pos2 (starEach [b] X.env)).any (·.1) = false := by rfl)
    (na2 : starEach [.Call (.Name "range" p2) [a, b] [] pos2] X.env = (false, eval (.Call (.Name "range" p2) [a, b] [] pos2) X.env) :: starEach [] X.env := by rfl) : RE X W (.Call (.Name "list" p) [.Call (.Name "range" p2) [a, b] [] pos2] [] pos) (eA (pLRg k) (eK fa (eK fb eN))) :=
  PE.imp (pe_listRg hc hg hm (prg_2 hg2 hm2 ha hb na nb hp) na2) fun σ H Q ⟨w, e, s, er, sm, q⟩ =>
  ⟨w, e, s, er, sm, by
    have e1 : eA (pLRg k) (eK fa (eK fb eN)) e s = (fa e s).bind fun d s => (fb e s).bind fun d2 s => pLRg k [d, d2] s := by
      unfold eA eK eN
      cases fa e s with
      | ok d s1 => simp only [Res.bind_ok]; cases fb e s1 <;> rfl
      | exc x s1 => rfl
      | bad => rfl
    rw [e1] at q
    refine (wr_bind q).mono fun v H1 ⟨w1, d1, s1, st1, sm1, r1, q1⟩ => ⟨w1, e, s1, er.step st1, sm1, (wr_bind (T := TR X.K) q1).mono fun u H2 ⟨w2, d2, s2, st2, sm2, r2, q2⟩ => ?_⟩
    have r1' := r1.step st2
    unfold pLRg at q2
    split at q2
    · rename_i h; cases h
    · rename_i i j h
      cases h
      cases r1'
      cases r2
      split at q2
      · rename_i hj
        exact ⟨i, j, rfl, rfl, ⟨by omega, by omega, by omega, by omega, by omega⟩, wr_newLst q2 sm2 (rs_rgV i j)⟩
      · exact q2.elim
    · exact q2.elim⟩
end
end Cf

set_option Elab.async false
set_option linter.all false
set_option maxRecDepth 100000
set_option maxHeartbeats 4000000
/-! Cf, part J: sorted of lists and tuples of ints. -/
namespace Cf
open PySem PySem.Spec L2
open PyProof.Rows hiding St
open SrtO SrtR

section
variable {prog : Program} {w : World} {A : Around} {E : Value → Shared → Prop} {s : Shared}
/-- collect, with the heap that it leaves -/
theorem collect_to {l : Addr} {T : String} {o : Obj} {m : Nat} {items : Array Value} {Q : List Value → Shared → Prop} (hT : T = "list" ∨ T = "tuple") (ho : s.heap.get? l = some o) (hc : o.cls = .type T) (hd : o.data = .seq items m) (hz : items.size ≤ sizeLine)
    (hQ : Q items.toList { s with heap := (s.heap.push (seqObj "list" #[] 0)).update s.heap.objs.size (Obj.mapSeq (· ++ items)) }) : wpAny (model prog w) A (collect (.ref l)) Q E s := by
  unfold collect
  refine wpAny_bind (wpAny_runValue (codeAny_builtin F.entry_proto_collect ?_))
  rw [Around.under_plainId F.plain_proto_collect _]
  show wpAny _ A.in1 (newList [] >>= fun z => again (.builtin "list.__iadd__" ⟨[z, .ref l], []⟩)) _ _ s
  refine wpAny_bind (wpAny_newObj_type (wpAny_pure ⟨plainId_quiet F.plain_list_iadd _, codeAny_builtin F.entry_list_iadd ?_⟩))
  rw [Around.under_plainId F.plain_list_iadd _]
  have h0 : (s.heap.push (seqObj "list" #[] 0)).get? s.heap.objs.size = some (seqObj "list" #[] 0) := Heap.get?_push_size _ rfl
  have h1 := Heap.get?_update_self (Obj.mapSeq (· ++ items)) h0 rfl
  have fin : wpAny (model prog w) A (match Value.ref s.heap.objs.size with
      | Value.ref z => do
        match (← load z).data with
          | Data.seq ys _ => pure ys.toList
          | _ => unsupported "internal:collect"
      | _ => unsupported "internal:collect") Q E { s with heap := (s.heap.push (seqObj "list" #[] 0)).update s.heap.objs.size (Obj.mapSeq (· ++ items)) } := by
    refine wpAny_bind (m := load s.heap.objs.size) (wpAny_load h1 (wpAny_pure ?_))
    have e : ((#[] : Array Value) ++ items).toList = items.toList := by simp
    show Q ((#[] : Array Value) ++ items).toList _
    rw [e]
    exact hQ
  refine wpAny_mono (wpAny_extend_seq (hsz := hz) (A := A) (R := fun r s' => r = .ok (.ret (.ref s.heap.objs.size)) ∧ s' = { s with heap := (s.heap.push (seqObj "list" #[] 0)).update s.heap.objs.size (Obj.mapSeq (· ++ items)) })
    (s := { s with heap := s.heap.push (seqObj "list" #[] 0) }) _ l _ 0 hT h0 (Heap.get?_push_of_some _ ho) hc hd ⟨rfl, rfl⟩) (fun z s' q => ?_) (fun z s' q => absurd q.1 (by simp))
  cases z with
  | done f =>
    obtain ⟨e, rfl⟩ := q
    cases e
    exact fin
  | again c' => exact ⟨q.1, codeAny_mono q.2 fun r s'' hr => by obtain ⟨rfl, rfl⟩ := hr; exact fin⟩
theorem sorted_seq {l : Addr} {T : String} {o : Obj} {m : Nat} {vs : List Value} {ns : List Int} {b : Bool} {kw : List (Str × Value)} {Q : Value → Shared → Prop} (hT : T = "list" ∨ T = "tuple")
    (ho : s.heap.get? l = some o) (hc : o.cls = .type T) (hd : o.data = .seq vs.toArray m)
    (hk : ∀ a, Builtin.«list.sort» ⟨[.ref a], kw⟩ = Builtin.«list.sort» ⟨[.ref a], [(Str.ofString "reverse", .bool b)]⟩) (ha1 : argsOk "sorted" ⟨[.ref l], kw⟩) (ha2 : ∀ a, argsOk "list.sort" ⟨[a], kw⟩) (hi : IntsAre vs ns) (hz : vs.length ≤ sizeLine)
    (h : ∀ (h' : Heap) (p : Addr) (out : List Value) (ns' : List Int) (e : Nat), s.heap.objs.size ≤ p → (∀ c x, s.heap.get? c = some x → h'.get? c = some x) → h'.get? p = some (seqObj "list" out.toArray e) → IntsAre out ns' → ns'.Perm ns → OrdB b ns' → Q (.ref p) { s with heap := h' }) :
    wpAny (model prog w) A (call (.builtin "sorted") [.ref l] kw) Q E s := by
  refine call_function_entry_kw kind_sorted plain_sorted entry_sorted ha1 ?_
  unfold Builtin.«sorted»
  refine wpAny_bind (m := checkCount "sorted" 1 1 _) (wpAny_pure ?_)
  refine wpAny_bind (collect_to hT ho hc hd (by simpa using hz) ?_)
  rw [show vs.toArray.toList = vs from rfl]
  have hs1 : ((s.heap.push (seqObj "list" #[] 0)).update s.heap.objs.size (Obj.mapSeq (· ++ vs.toArray))).objs.size = s.heap.objs.size + 1 := by rw [Heap.size_update, size_push']
  have k1 : ∀ c x, s.heap.get? c = some x → ((s.heap.push (seqObj "list" #[] 0)).update s.heap.objs.size (Obj.mapSeq (· ++ vs.toArray))).get? c = some x := fun c x hx =>
    (Heap.get?_update_other _ _ (Nat.ne_of_gt (Heap.lt_size hx))).trans (Heap.get?_push_of_some _ hx)
  generalize (s.heap.push (seqObj "list" #[] 0)).update s.heap.objs.size (Obj.mapSeq (· ++ vs.toArray)) = h1 at hs1 k1
  refine wpAny_bind (wpAny_newList ?_ hz)
  have hoL : (h1.push (seqObj "list" vs.toArray 0)).get? h1.objs.size = some (seqObj "list" vs.toArray 0) := Heap.get?_push_size _ rfl
  refine wpAny_bind (wpAny_holding (wpAny_call_entry_kw slot_list_sort ⟨_, hoL, rfl⟩ entry_list_sort ?_ (ha2 _)))
  rw [hk]
  refine list_sort_ordR (s := { s with heap := h1.push (seqObj "list" vs.toArray 0) }) swo_int hoL hz (fun h2 => ints_sortable hi h2) fun out hs hb => ⟨_, rfl, ?_⟩
  obtain ⟨ns', q1, q2, q3⟩ := ints_outR hi hs hb
  obtain ⟨e, he⟩ := sortedHeap_at (vs := vs) (out := if b = true then out.toArray.reverse else out.toArray) hoL
  refine wpAny_pure ⟨_, rfl, h _ h1.objs.size (if b = true then out.toArray.reverse else out.toArray).toList ns' e (by rw [hs1]; exact Nat.le_succ _) (fun c x hx => ?_) (by rw [Array.toArray_toList]; exact he) q1 q2 (by cases b <;> exact q3)⟩
  have hx1 := k1 c x hx
  have hlt := Heap.lt_size hx1
  rw [sortedHeap_old (Nat.ne_of_lt hlt) (by rw [size_push']; exact Nat.lt_succ_of_lt hlt)]
  exact Heap.get?_push_of_some _ hx1
end
/-- the sorted ints of a list or tuple -/
def rSortA (K : PySem.W.Frag) (b : Bool) (zs0 : List V) : List V → List V → Hp → VK → Prop := fun vs zs H Q => ∃ (a : Addr) (ns : List Int), vs = [V.ref a] ∧ zs = zs0 ∧ (SqL K H a (ns.map V.int) ∨ SqT K H a (ns.map V.int)) ∧
  ∀ (ns' : List Int) (p : Addr), ns'.Perm ns → OrdB b ns' → H p = none → Q (.ref p) (upd H p (.lst (ns'.map V.int)))
section
variable {X : Cx}
theorem sorted_any {b : Bool} {kw : List (Str × Value)} {pins : List (Addr × Obj)} {s : Shared} {σ : St} {H : Hp} {a : Addr} {ns : List Int} {Q : VK} (I : Inv X pins σ H s) (hs : SqL X.K H a (ns.map V.int) ∨ SqT X.K H a (ns.map V.int))
    (hk : ∀ a, Builtin.«list.sort» ⟨[.ref a], kw⟩ = Builtin.«list.sort» ⟨[.ref a], [(Str.ofString "reverse", .bool b)]⟩) (ha1 : argsOk "sorted" ⟨[.ref a], kw⟩) (ha2 : ∀ a, argsOk "list.sort" ⟨[a], kw⟩)
    (q : ∀ (ns' : List Int) (p : Addr), ns'.Perm ns → OrdB b ns' → H p = none → Q (.ref p) (upd H p (.lst (ns'.map V.int)))) : wpAny (model X.prog X.w) X.A (call (.builtin "sorted") [.ref a] kw) (EP X pins σ Q) X.xe s := by
  have go : ∀ (T : String) (o : Obj) (m : Nat) (its : List Value), (T = "list" ∨ T = "tuple") → s.heap.get? a = some o → o.cls = .type T → o.data = .seq its.toArray m → Vals (ns.map V.int) its → (ns.map V.int).length ≤ sizeLine → wpAny (model X.prog X.w) X.A (call (.builtin "sorted") [.ref a] kw) (EP X pins σ Q) X.xe s := by
    intro T o m its hT ho hc hd rv hz
    refine sorted_seq hT ho hc hd hk ha1 ha2 rv.ints (by rw [← rv.length]; exact hz) fun h' p out ns' e hp keep he hi hpm hob => ?_
    have hlen : (ns'.map V.int).length ≤ sizeLine := by
      rw [List.length_map, hpm.length_eq]
      rw [List.length_map] at hz
      exact hz
    exact ⟨.ref p, upd H p (.lst (ns'.map V.int)), I.laid (t' := s.toks) keep hp ⟨hlen, out, e, vals_of_ints hi, he⟩, rfl, q _ _ hpm hob (I.hok.fresh hp)⟩
  rcases hs with hs | hs
  · obtain ⟨its, rv, pl, hz⟩ := I.list hs
    obtain ⟨o, ho, hc, m, hd⟩ := pl.isList
    exact go "list" o m its (.inl rfl) ho hc hd rv hz
  · obtain ⟨its, rv, pl, hz⟩ := I.tuple hs
    obtain ⟨o, ho, hc, m, hd⟩ := pl
    exact go "tuple" o m its (.inr rfl) ho hc hd rv hz
theorem cr_sortA : CallR X (.builtin "sorted") (fun vs H Q => rSortA X.K false [] vs [] H Q) := by
  intro pins s σ H vs us Q I r h
  obtain ⟨a, ns, rfl, _, hs, q⟩ := h
  rw [Vals.ref1 r]
  exact sorted_any (b := false) I hs (fun a => rfl) (args_sorted1 _) (fun a => args_list_sort _) q
theorem cr_sortAR {b : Bool} : CallRK X (.builtin "sorted") [Str.ofString "reverse"] (rSortA X.K b [.bl b]) := by
  intro pins s σ H xs zs us ws Q I r rz h
  obtain ⟨a, ns, rfl, rfl, hs, q⟩ := h
  rw [Vals.ref1 r]
  cases rz with
  | cons r1 rr =>
    cases rr
    cases r1
    exact sorted_any (b := b) I hs (fun a => rfl) (args_sorted_rev _ _) (fun a => args_list_sort_rev _ _) q
def srtB (b : Bool) (c : Bool) (x : D) (s : S) : Res D := match sqOf x s with
    | some ds => match intsD ds with
      | some ns => mkL c ((if b then (srtI ns).reverse else srtI ns).map D.int) s
      | none => .bad
    | none => .bad
def pSo (c : Bool) (xs : List D) (s : S) : Res D := match xs with
  | [x] => srtB false c x s
  | _ => .bad
def pSoR (c : Bool) (x : D) (s : S) : Res D := srtB true c x s
theorem srt_ok (b : Bool) {w : Wd} {s : S} {H : Hp} {c : Bool} {x : D} {v : V} {Q : VK} {W : Value → Option Addr → Hp → Prop} {zs : List V} (sm : Sim X.K w s H) (r : R X.K w H x v) (q : wr X.K X.mg (TR X.K) w H (srtB b c x s) Q W) : rSortA X.K b zs [v] zs H Q := by
  unfold srtB at q
  split at q
  · rename_i ds hds
    split at q
    · rename_i ns hns
      obtain ⟨a, us, rfl, e2, e3⟩ := r.sqa sm hds
      have := intsD_ok e3 hns
      subst this
      refine ⟨a, ns, rfl, rfl, e2, fun ns' p hp ho np => ?_⟩
      have e : ns' = if b then (srtI ns).reverse else srtI ns := by
        cases b with
        | false => exact srtI_of hp ho
        | true =>
          have h1 : ns'.reverse = srtI ns := srtI_of (ns'.reverse_perm.trans hp) (by
            have ho' : ns'.Pairwise (· ≥ ·) := ho
            rw [List.pairwise_reverse]
            exact ho')
          rw [if_pos rfl, ← h1, List.reverse_reverse]
      rw [e]
      exact wr_newLst q sm (Rs.ints _) p np
    · exact q.elim
  · exact q.elim
theorem p_so {c : Bool} : PN X (fun vs H Q => rSortA X.K false [] vs [] H Q) (pSo c) := by
  intro w s H xs vs Q W sm r q
  unfold pSo at q
  split at q
  · obtain ⟨v, rfl, r1⟩ := one_of r
    exact srt_ok false sm r1 q
  · exact q.elim
variable {W : WX} {a : Expr} {fa : Ev} {pos : Pos}
theorem re_soR {k : Bool} {p kp : Pos} {j : Nat} {p3 : Pos} (hg : Gl X "sorted") (hm : X.mg "sorted" = none) (ha : RE X W a fa)
    (he0 : starEach [a] X.env = (false, eval a X.env) :: starEach [] X.env := by rfl)
    (he : backTo pos (starEach [a] X.env) = (false, eval a X.env) :: backTo pos (starEach [] X.env) := by rfl) (hpl : (backTo pos (starEach [a] X.env)).any (·.1) = false := by rfl)
    (hall : (backToKw pos (keywordEach [⟨some "reverse", .Constant (.bool true) j p3, kp⟩] X.env)).all (·.1.isSome) = true := by rfl) (hnone : (backToKw pos (keywordEach [⟨some "reverse", .Constant (.bool true) j p3, kp⟩] X.env)).any (·.1.isNone) = false := by rfl)
    (hks : (backToKw pos (keywordEach [⟨some "reverse", .Constant (.bool true) j p3, kp⟩] X.env)).filterMap (·.1) = [Str.ofString "reverse"] := by rfl) :
    RE X W (.Call (.Name "sorted" p) [a] [⟨some "reverse", .Constant (.bool true) j p3, kp⟩] pos) (e1 (pSoR k) fa) :=
  PE.imp (pe_callBK (cr_sortAR (b := true)) hg hm PyProof.Rows.boot_sorted (pa_cons ha pa_nil he0) (pk_cons pe_bl pk_nil) (by decide) (by decide) he hpl hall hnone hks) fun σ H Q ⟨w, e, s, er, sm, q⟩ =>
  ⟨w, e, s, er, sm, (wr_bind q).mono fun v H1 ⟨w1, d1, s1, st1, sm1, r1, q1⟩ => srt_ok (c := k) true sm1 r1 q1⟩
end
end Cf

set_option Elab.async false
set_option linter.all false
set_option maxRecDepth 100000
set_option maxHeartbeats 4000000
/-! Cf, part K: the law's own end. -/
namespace Cf
open PySem PySem.Spec L2
open PyProof.Rows hiding St
/-- the promise of the law: its mirror ends, without an error -/
def spL (K : PySem.W.Frag) (M : List D → S → Res D) : Sp := fun vs H Q _ => ∃ w ds s d s', Rs K w H ds vs ∧ Sim K w s H ∧ ds.length = 1 ∧ M ds s = .ok d s' ∧ ∀ w' v H', Step w H w' H' → Sim K w' s' H' → R K w' H' d v → Q v H'
theorem spL_imp {K : PySem.W.Frag} {G : Str → Option Value} {M : List D → S → Res D} : ∀ vs H Q E, spL K M vs H Q E → spOf K G M 1 vs H Q E := by
  rintro vs H Q E ⟨w, ds, s, d, s', r, sm, hl, e, q⟩
  exact ⟨w, ds, s, r, sm, hl, by rw [e]; exact q⟩
theorem spL_start {K : PySem.W.Frag} {M : List D → S → Res D} {H : Hp} {a : Addr} {ns : List Int} (hO : Only H) (hS : SqL K H a (ns.map V.int)) (h : ∃ s', M [.fz (ns.map D.int)] [] = .ok (.bl true) s') : spL K M [.ref a] H (fun v _ => v = .bl true) fun _ _ _ => False := by
  obtain ⟨s', e⟩ := h
  refine ⟨⟨[], []⟩, [.fz (ns.map D.int)], [], .bl true, s', .cons (.fz ?_ (Rs.ints ns)) .nil, ⟨rfl, .nil, fun n ds q => by simp at q, fun a q => by cases q⟩, rfl, e, fun w' v H' _ _ r => by cases r; rfl⟩
  rcases hS with (h | ⟨o, h⟩) | h
  · rcases hO a with z | ⟨o, xs, z⟩
    · rw [z] at h; cases h
    · rw [z] at h; cases h
  · exact .inl ⟨⟨by simp, by simp⟩, o, h⟩
  · exact .inr (.inr h)
theorem cx_end {P : Program} {w : World} {H : Hp} {s : Shared} {e : Value} {s' : Shared} (h : L2.CX P w [] H s (fun _ _ _ => False) e s') : False := by
  obtain ⟨_, _, _, _, _, _, _, _, _, _, _, _, h⟩ := h
  exact h
end Cf

set_option linter.all false
set_option maxRecDepth 100000
set_option maxHeartbeats 1000000
/-! Cf, part P: how mirrors are computed. Plain Lean, no program. -/
namespace Cf
open PySem L2

/-! ### statements -/
theorem sSeq_nx {g h : Es} {e e' : En} {s s' : S} (h1 : g e s = .ok (.nx e') s') : sSeq g h e s = h e' s' := by unfold sSeq; rw [h1]
theorem sSeq_rt {g h : Es} {e : En} {s s' : S} {d : D} (h1 : g e s = .ok (.rt d) s') : sSeq g h e s = .ok (.rt d) s' := by unfold sSeq; rw [h1]
theorem sSet_ok {i : Nat} {f : Ev} {e : En} {s s' : S} {d : D} (h : f e s = .ok d s') : sSet i f e s = .ok (.nx (e.set i (some d))) s' := by unfold sSet sB; rw [h]
theorem sRet_ok {f : Ev} {e : En} {s s' : S} {d : D} (h : f e s = .ok d s') : sRet f e s = .ok (.rt d) s' := by unfold sRet sB; rw [h]
theorem sExpr_ok {f : Ev} {e : En} {s s' : S} {d : D} (h : f e s = .ok d s') : sExpr f e s = .ok (.nx e) s' := by unfold sExpr sB; rw [h]
theorem sIf_ok {c : Eb} {g h : Es} {e : En} {s s' : S} {b : Bool} (h1 : c e s = .ok b s') : sIf c g h e s = if b then g e s' else h e s' := by unfold sIf sB; rw [h1]
theorem sIf_no {c : Eb} {g h : Es} {e : En} {s s' : S} (h1 : c e s = .ok false s') : sIf c g h e s = h e s' := by rw [sIf_ok h1]; rfl
theorem sIf_yes {c : Eb} {g h : Es} {e : En} {s s' : S} (h1 : c e s = .ok true s') : sIf c g h e s = g e s' := by rw [sIf_ok h1]; rfl
theorem sNil_eq (e : En) (s : S) : sNil e s = .ok (.nx e) s := rfl
theorem sWhile_no {n : Nat} {c : Eb} {g : Es} {e : En} {s s' : S} (h : c e s = .ok false s') : sWhile (n + 1) c g e s = .ok (.nx e) s' := by unfold sWhile sB; rw [h]; rfl
theorem sWhile_yes {n : Nat} {c : Eb} {g : Es} {e e' : En} {s s' s'' : S} (h : c e s = .ok true s') (h2 : g e s' = .ok (.nx e') s'') : sWhile (n + 1) c g e s = sWhile n c g e' s'' := by
  rw [sWhile]
  unfold sB
  rw [h]
  simp only [if_true, h2]
theorem sAsg_ok {t : Tgt} {f : Ev} {e e' : En} {s s' : S} {d : D} (h : f e s = .ok d s') (h2 : asg t d e = some e') : sAsg t f e s = .ok (.nx e') s' := by unfold sAsg sB; rw [h]; simp only [h2]
theorem runD_rt {n : Nat} {g : Es} {ds : List D} {s s' : S} {d : D} (h : g (ds.map some ++ List.replicate (n - ds.length) none) s = .ok (.rt d) s') : runD n g ds s = .ok d s' := by unfold runD; rw [h]
theorem runD_nx {n : Nat} {g : Es} {ds : List D} {s s' : S} {e : En} (h : g (ds.map some ++ List.replicate (n - ds.length) none) s = .ok (.nx e) s') : runD n g ds s = .ok .non s' := by unfold runD; rw [h]
/-! ### expressions -/
theorem eV_ok {i : Nat} {e : En} {s : S} {d : D} (h : e[i]? = some (some d)) : eV i e s = .ok d s := by unfold eV; rw [h]
theorem e1_ok {p : D → S → Res D} {f : Ev} {e : En} {s s' : S} {d : D} (h : f e s = .ok d s') : e1 p f e s = p d s' := by unfold e1; rw [h]; rfl
theorem e2_ok {p : D → D → S → Res D} {f g : Ev} {e : En} {s s1 s2 : S} {a b : D} (h : f e s = .ok a s1) (h2 : g e s1 = .ok b s2) : e2 p f g e s = p a b s2 := by unfold e2; rw [h]; simp only [Res.bind_ok]; rw [h2]; rfl
@[simp] theorem eC_eq (d : D) (e : En) (s : S) : eC d e s = .ok d s := rfl
@[simp] theorem eN_eq (e : En) (s : S) : eN e s = .ok [] s := rfl
theorem eK_eq (f : Ev) (g : Ea) (e : En) (s : S) : eK f g e s = (f e s).bind fun d s => (g e s).bind fun ds s => .ok (d :: ds) s := id rfl
theorem e1_eq (p : D → S → Res D) (f : Ev) (e : En) (s : S) : e1 p f e s = (f e s).bind p := id rfl
theorem e2_eq (p : D → D → S → Res D) (f g : Ev) (e : En) (s : S) : e2 p f g e s = (f e s).bind fun a s => (g e s).bind fun b s => p a b s := id rfl
theorem eA_eq (p : List D → S → Res D) (f : Ea) (e : En) (s : S) : eA p f e s = (f e s).bind p := id rfl
theorem eF_eq (n : Nat) (M : List D → S → Res D) (f : Ea) (e : En) (s : S) : eF n M f e s = (f e s).bind fun ds s => if ds.length = n then M ds s else .bad := id rfl
theorem bB_eq (f : Ev) (e : En) (s : S) : bB f e s = (f e s).bind fun d s => match d with
  | .bl b => .ok b s
  | _ => .bad := id rfl
theorem bT_eq (f : Ev) (e : En) (s : S) : bT f e s = (f e s).bind fun d s => match truthD d s with
  | some b => .ok b s
  | none => .bad := id rfl
theorem bAnd_eq (f g : Eb) (e : En) (s : S) : bAnd f g e s = (f e s).bind fun b s => if b then g e s else .ok false s := id rfl
theorem bOr_eq (f g : Eb) (e : En) (s : S) : bOr f g e s = (f e s).bind fun b s => if b then .ok true s else g e s := id rfl
theorem bNot_eq (f : Eb) (e : En) (s : S) : bNot f e s = (f e s).bind fun b s => .ok (!b) s := id rfl
theorem eT_eq (f : Ea) (e : En) (s : S) : eT f e s = (f e s).bind fun ds s => .ok (.tup ds) s := id rfl
theorem eL_eq (c : Bool) (f : Ea) (e : En) (s : S) : eL c f e s = (f e s).bind (mkL c) := id rfl
theorem eIf_eq (c : Eb) (f g : Ev) (e : En) (s : S) : eIf c f g e s = (c e s).bind fun b s => if b then f e s else g e s := id rfl
theorem eIt_eq (p : D → S → Res Wlk) (f : Ev) (e : En) (s : S) : eIt p f e s = (f e s).bind p := id rfl
theorem eItA_eq (p : List D → S → Res Wlk) (f : Ea) (e : En) (s : S) : eItA p f e s = (f e s).bind p := id rfl
theorem eM_eq (p : D → List D → S → Res D) (f : Ev) (g : Ea) (e : En) (s : S) : eM p f g e s = (f e s).bind fun o s => match lsw o s with
  | some _ => (g e s).bind fun xs s => p o xs s
  | none => .bad := id rfl
theorem eSl_eq (k : Bool) (f : Ev) (l h : En → S → Res (Option Int)) (e : En) (s : S) : eSl k f l h e s = (f e s).bind fun d s => (l e s).bind fun lo s => (h e s).bind fun hi s => pSl k d lo hi s := id rfl
theorem oNo_eq (e : En) (s : S) : oNo e s = .ok none s := id rfl
theorem oI_eq (f : Ev) (e : En) (s : S) : oI f e s = (f e s).bind fun d s => match d with
  | .int i => .ok (some i) s
  | _ => .bad := id rfl
theorem eV_eq (i : Nat) (e : En) (s : S) : eV i e s = match e[i]? with
  | some (some d) => .ok d s
  | _ => .bad := id rfl
theorem eAnd_eq (f g : Ev) (e : En) (s : S) : eAnd f g e s = (f e s).bind fun d s => match truthD d s with
  | some b => if b then g e s else .ok d s
  | none => .bad := id rfl
theorem eOr_eq (f g : Ev) (e : En) (s : S) : eOr f g e s = (f e s).bind fun d s => match truthD d s with
  | some b => if b then .ok d s else g e s
  | none => .bad := id rfl
theorem eNot_eq (f : Ev) (e : En) (s : S) : eNot f e s = (f e s).bind fun d s => match truthD d s with
  | some b => .ok (.bl (!b)) s
  | none => .bad := id rfl
theorem eCh_eq (p q : D → D → S → Res D) (f g h : Ev) (e : En) (s : S) : eCh p q f g h e s = (f e s).bind fun a s => (g e s).bind fun b s => (p a b s).bind fun z s => match z with
  | .bl true => (h e s).bind fun c s => q b c s
  | .bl false => .ok (.bl false) s
  | _ => .bad := id rfl
theorem sB_eq {α : Type} (f : En → S → Res α) (k : α → En → S → Res Out) (e : En) (s : S) : sB f k e s = match f e s with
  | .ok a s' => k a e s'
  | .exc x s' => .ok (.xc x e) s'
  | .bad => .bad := rfl
/-! ### loops over sequences, by structure -/
def forL (t : Tgt) (g : Es) : List D → En → S → Res Out
  | [], e, s => .ok (.nx e) s
  | d :: ds, e, s => match asg t d e with
    | some e1 => match g e1 s with
      | .ok (.nx e2) s2 => forL t g ds e2 s2
      | .ok (.ct e2) s2 => forL t g ds e2 s2
      | .ok (.bk e2) s2 => .ok (.nx e2) s2
      | r => r
    | none => .bad
theorem forL_nx {t : Tgt} {g : Es} {d : D} {ds : List D} {e e1 e2 : En} {s s2 : S} (h1 : asg t d e = some e1) (h2 : g e1 s = .ok (.nx e2) s2) : forL t g (d :: ds) e s = forL t g ds e2 s2 := by
  simp only [forL, h1, h2]
theorem forL_rt {t : Tgt} {g : Es} {d v : D} {ds : List D} {e e1 : En} {s s2 : S} (h1 : asg t d e = some e1) (h2 : g e1 s = .ok (.rt v) s2) : forL t g (d :: ds) e s = .ok (.rt v) s2 := by
  simp only [forL, h1, h2]
theorem forI_seq (t : Tgt) (g : Es) (xs : List D) : ∀ (k i : Nat) (e : En) (s : S), k + i = xs.length → forI (.seq xs) t g k i e s = forL t g (xs.drop i) e s
  | 0, i, e, s, h => by
    unfold forI
    have e1 : xs[i]? = none := List.getElem?_eq_none_iff.mpr (by omega)
    have e2 : xs.drop i = [] := List.drop_eq_nil_iff.mpr (by omega)
    simp only [nextIt, e1, e2, forL]
  | k + 1, i, e, s, h => by
    unfold forI
    have hi : i < xs.length := by omega
    have e1 : xs[i]? = some xs[i] := List.getElem?_eq_getElem hi
    have e2 : xs.drop i = xs[i] :: xs.drop (i + 1) := List.drop_eq_getElem_cons hi
    simp only [nextIt, e1, e2, forL]
    cases asg t xs[i] e with
    | none => rfl
    | some e1 =>
      simp only
      cases g e1 s with
      | ok o s2 =>
        cases o with
        | nx e2 => exact forI_seq t g xs k (i + 1) e2 s2 (by omega)
        | ct e2 => exact forI_seq t g xs k (i + 1) e2 s2 (by omega)
        | bk e2 => rfl
        | rt d => rfl
        | xc x e => rfl
      | exc x s2 => rfl
      | bad => rfl
theorem sFor_seq {fi : Ei} {t : Tgt} {g : Es} {e : En} {s s' : S} {xs : List D} (h : fi e s = .ok (.seq xs) s') : sFor fi t g e s = forL t g xs e s' := by
  unfold sFor sB
  rw [h]
  exact forI_seq t g xs xs.length 0 e s' (by omega)
def compL (t : Tgt) (c : Eb) (f : Ev) : List D → En → S → Res (List D)
  | [], _, s => .ok [] s
  | d :: ds, e, s => match asg t d e with
    | some e1 => (noX (c e1 s)).bind fun b s1 => if b then (noX (f e1 s1)).bind fun y s2 => (compL t c f ds e s2).bind fun ys s3 => .ok (y :: ys) s3 else compL t c f ds e s1
    | none => .bad
theorem compI_seq (t : Tgt) (c : Eb) (f : Ev) (xs : List D) : ∀ (k i : Nat) (e : En) (s : S), k + i = xs.length → compI (.seq xs) t c f k i e s = compL t c f (xs.drop i) e s
  | 0, i, e, s, h => by
    unfold compI
    have e1 : xs[i]? = none := List.getElem?_eq_none_iff.mpr (by omega)
    have e2 : xs.drop i = [] := List.drop_eq_nil_iff.mpr (by omega)
    simp only [nextIt, e1, e2, compL]
  | k + 1, i, e, s, h => by
    unfold compI
    have hi : i < xs.length := by omega
    have e1 : xs[i]? = some xs[i] := List.getElem?_eq_getElem hi
    have e2 : xs.drop i = xs[i] :: xs.drop (i + 1) := List.drop_eq_getElem_cons hi
    have ih : ∀ e s, compI (.seq xs) t c f k (i + 1) e s = compL t c f (xs.drop (i + 1)) e s := fun e s => compI_seq t c f xs k (i + 1) e s (by omega)
    simp only [nextIt, e1, e2, compL, ih]
    try (cases asg t xs[i] e <;> rfl)
theorem eLc_seq {k : Bool} {fi : Ei} {vs : List Nat} {t : Tgt} {c : Eb} {f : Ev} {e : En} {s s' : S} {xs : List D} (h : fi e s = .ok (.seq xs) s') (hz : xs.length ≤ sizeLine) : eLc k fi vs t c f e s = (compL t c f xs (wipeE e vs) s').bind (mkL k) := by
  unfold eLc
  rw [h]
  simp only [Res.bind_ok]
  rw [if_pos (show (Wlk.seq xs).len ≤ sizeLine from hz), show (Wlk.seq xs).len = xs.length from rfl, compI_seq t c f xs xs.length 0 _ _ (by omega)]
  rfl
/-- a comprehension that leaves the store alone -/
theorem compL_pure {t : Tgt} {c : Eb} {f : Ev} {P : D → Bool} {F : D → D} {e : En} {s : S} : ∀ {xs : List D}, (∀ d ∈ xs, ∃ e1, asg t d e = some e1 ∧ c e1 s = .ok (P d) s ∧ (P d = true → f e1 s = .ok (F d) s)) → compL t c f xs e s = .ok ((xs.filter P).map F) s
  | [], _ => rfl
  | d :: ds, h => by
    obtain ⟨e1, h1, h2, h3⟩ := h d List.mem_cons_self
    have ih := compL_pure (xs := ds) fun x hx => h x (List.mem_cons_of_mem _ hx)
    simp only [compL, h1, h2, noX_ok, Res.bind_ok]
    cases c : P d with
    | true => simp [h3 c, ih, c]
    | false => simp [ih, c]
theorem compL_map {t : Tgt} {f : Ev} {F : D → D} {e : En} {s : S} {xs : List D} (h : ∀ d ∈ xs, ∃ e1, asg t d e = some e1 ∧ f e1 s = .ok (F d) s) : compL t bYes f xs e s = .ok (xs.map F) s := by
  have := compL_pure (t := t) (c := bYes) (f := f) (P := fun _ => true) (F := F) (e := e) (s := s) (xs := xs) fun d hd => by
    obtain ⟨e1, h1, h2⟩ := h d hd
    exact ⟨e1, h1, rfl, fun _ => h2⟩
  rwa [List.filter_eq_self.mpr (fun _ _ => rfl)] at this
theorem eLc_map {k : Bool} {fi : Ei} {vs : List Nat} {t : Tgt} {f : Ev} {F : D → D} {e : En} {s s' : S} {xs : List D} (h : fi e s = .ok (.seq xs) s') (hz : xs.length ≤ sizeLine) (hf : ∀ d ∈ xs, ∃ e1, asg t d (wipeE e vs) = some e1 ∧ f e1 s' = .ok (F d) s') : eLc k fi vs t bYes f e s = mkL k (xs.map F) s' := by
  rw [eLc_seq h hz, compL_map hf]
  rfl
theorem eLc_fil {k : Bool} {fi : Ei} {vs : List Nat} {t : Tgt} {c : Eb} {f : Ev} {P : D → Bool} {F : D → D} {e : En} {s s' : S} {xs : List D} (h : fi e s = .ok (.seq xs) s') (hz : xs.length ≤ sizeLine) (hf : ∀ d ∈ xs, ∃ e1, asg t d (wipeE e vs) = some e1 ∧ c e1 s' = .ok (P d) s' ∧ (P d = true → f e1 s' = .ok (F d) s')) : eLc k fi vs t c f e s = mkL k ((xs.filter P).map F) s' := by
  rw [eLc_seq h hz, compL_pure hf]
  rfl
theorem compO_seq (t : Tgt) (c : Eb) (fi1 : Ei) (vs1 : List Nat) (t1 : Tgt) (c1 : Eb) (f : Ev) (xs : List D) (e : En) (s : S) (F : D → List D)
    (h : ∀ d ∈ xs, ∃ e1 ys, asg t d e = some e1 ∧ c e1 s = .ok true s ∧ fi1 e1 s = .ok (.seq ys) s ∧ ys.length ≤ 4000 ∧ compL t1 c1 f ys (wipeE e1 vs1) s = .ok (F d) s) :
    ∀ (k i : Nat), k + i = xs.length → compO (.seq xs) t c fi1 vs1 t1 c1 f k i e s = .ok ((xs.drop i).flatMap F) s
  | 0, i, hk => by
    unfold compO
    have e1 : xs[i]? = none := List.getElem?_eq_none_iff.mpr (by omega)
    have e2 : xs.drop i = [] := List.drop_eq_nil_iff.mpr (by omega)
    simp only [nextIt, e1, e2, List.flatMap_nil]
  | k + 1, i, hk => by
    unfold compO
    have hi : i < xs.length := by omega
    have e1 : xs[i]? = some xs[i] := List.getElem?_eq_getElem hi
    have e2 : xs.drop i = xs[i] :: xs.drop (i + 1) := List.drop_eq_getElem_cons hi
    obtain ⟨e1', ys, h1, h2, h3, h4, h5⟩ := h xs[i] (List.getElem_mem hi)
    have ih := compO_seq t c fi1 vs1 t1 c1 f xs e s F h k (i + 1) (by omega)
    simp only [nextIt, e1, e2, h1, h2, h3, noX_ok, Res.bind_ok, if_true]
    rw [if_pos (show (Wlk.seq ys).len ≤ 4000 from h4), show (Wlk.seq ys).len = ys.length from rfl, compI_seq t1 c1 f ys ys.length 0 _ _ (by omega), List.drop_zero, h5]
    simp only [Res.bind_ok, ih, List.flatMap_cons, noX_ok]
/-- a loop told by how far it is -/
theorem forL_ind {t : Tgt} {g : Es} {ds : List D} {I : Nat → En → S → Prop} (h : ∀ k (hk : k < ds.length) e s, I k e s → ∃ e1 e2 s2, asg t ds[k] e = some e1 ∧ g e1 s = .ok (.nx e2) s2 ∧ I (k + 1) e2 s2) : ∀ (j k : Nat) (e : En) (s : S), j + k = ds.length → I k e s → ∃ e' s', forL t g (ds.drop k) e s = .ok (.nx e') s' ∧ I ds.length e' s'
  | 0, k, e, s, hj, hi => by
    have e2 : ds.drop k = [] := List.drop_eq_nil_iff.mpr (by omega)
    refine ⟨e, s, by rw [e2]; rfl, ?_⟩
    rwa [show ds.length = k by omega]
  | j + 1, k, e, s, hj, hi => by
    have hk : k < ds.length := by omega
    obtain ⟨e1, e2, s2, a, b, c⟩ := h k hk e s hi
    rw [List.drop_eq_getElem_cons hk, forL_nx a b]
    exact forL_ind h j (k + 1) e2 s2 (by omega) c
theorem forL_all {t : Tgt} {g : Es} {ds : List D} {I : Nat → En → S → Prop} {e : En} {s : S} (h : ∀ k (hk : k < ds.length) e s, I k e s → ∃ e1 e2 s2, asg t ds[k] e = some e1 ∧ g e1 s = .ok (.nx e2) s2 ∧ I (k + 1) e2 s2) (h0 : I 0 e s) : ∃ e' s', forL t g ds e s = .ok (.nx e') s' ∧ I ds.length e' s' := forL_ind h ds.length 0 e s (by omega) h0
/-- a walk over any thing, the store left alone -/
theorem compI_pureW {it : Wlk} {t : Tgt} {c : Eb} {f : Ev} {P : D → Bool} {F : D → D} {e : En} {s : S} {L : List D} (hit : ∀ i, nextIt it i s = some L[i]?) (h : ∀ d ∈ L, ∃ e1, asg t d e = some e1 ∧ c e1 s = .ok (P d) s ∧ (P d = true → f e1 s = .ok (F d) s)) : ∀ (k i : Nat), k + i = L.length → compI it t c f k i e s = .ok (((L.drop i).filter P).map F) s
  | 0, i, hk => by
    unfold compI
    have e1 : L[i]? = none := List.getElem?_eq_none_iff.mpr (by omega)
    have e2 : L.drop i = [] := List.drop_eq_nil_iff.mpr (by omega)
    simp only [hit, e1, e2]
    rfl
  | k + 1, i, hk => by
    unfold compI
    have hi : i < L.length := by omega
    have e1 : L[i]? = some L[i] := List.getElem?_eq_getElem hi
    have e2 : L.drop i = L[i] :: L.drop (i + 1) := List.drop_eq_getElem_cons hi
    obtain ⟨e1', h1, h2, h3⟩ := h L[i] (List.getElem_mem hi)
    have ih := compI_pureW (it := it) hit h k (i + 1) (by omega)
    simp only [hit, e1, e2, h1, h2, noX_ok, Res.bind_ok]
    cases cp : P L[i] with
    | true => simp only [if_true, h3 cp, noX_ok, Res.bind_ok, ih, List.filter_cons, cp, List.map_cons]
    | false => simp only [Bool.false_eq_true, if_false, ih, List.filter_cons, cp]
theorem compO_pureW {it : Wlk} {t : Tgt} {c : Eb} {fi1 : Ei} {vs1 : List Nat} {t1 : Tgt} {c1 : Eb} {f : Ev} {F : D → List D} {e : En} {s : S} {L : List D} (hit : ∀ i, nextIt it i s = some L[i]?)
    (h : ∀ d ∈ L, ∃ e1 it1, asg t d e = some e1 ∧ c e1 s = .ok true s ∧ fi1 e1 s = .ok it1 s ∧ it1.len ≤ 4000 ∧ compI it1 t1 c1 f it1.len 0 (wipeE e1 vs1) s = .ok (F d) s) : ∀ (k i : Nat), k + i = L.length → compO it t c fi1 vs1 t1 c1 f k i e s = .ok ((L.drop i).flatMap F) s
  | 0, i, hk => by
    unfold compO
    have e1 : L[i]? = none := List.getElem?_eq_none_iff.mpr (by omega)
    have e2 : L.drop i = [] := List.drop_eq_nil_iff.mpr (by omega)
    simp only [hit, e1, e2, List.flatMap_nil]
  | k + 1, i, hk => by
    unfold compO
    have hi : i < L.length := by omega
    have e1 : L[i]? = some L[i] := List.getElem?_eq_getElem hi
    have e2 : L.drop i = L[i] :: L.drop (i + 1) := List.drop_eq_getElem_cons hi
    obtain ⟨e1', it1, h1, h2, h3, h4, h5⟩ := h L[i] (List.getElem_mem hi)
    have ih := compO_pureW (it := it) hit h k (i + 1) (by omega)
    simp only [hit, e1, e2, h1, h2, h3, noX_ok, Res.bind_ok, if_true, if_pos h4, h5, ih, List.flatMap_cons]
/-- a comprehension that makes a list of the store at each -/
theorem compL_alloc {t : Tgt} {f : Ev} {F : D → List D} {e : En} : ∀ {ds : List D} {s : S}, (∀ d ∈ ds, ∀ s, ∃ e1, asg t d e = some e1 ∧ f e1 s = .ok (.ref s.length) (s ++ [F d])) → compL t bYes f ds e s = .ok ((List.range ds.length).map fun i => .ref (s.length + i)) (s ++ ds.map F)
  | [], s, _ => by simp [compL]
  | d :: ds, s, h => by
    obtain ⟨e1, h1, h2⟩ := h d List.mem_cons_self s
    have ih := compL_alloc (ds := ds) (s := s ++ [F d]) fun x hx => h x (List.mem_cons_of_mem _ hx)
    simp only [compL, h1, bYes, h2, noX_ok, Res.bind_ok, if_true, ih]
    congr 1
    · rw [List.length_cons, List.range_succ_eq_map, List.map_cons, List.map_map]
      congr 1
      refine List.map_congr_left fun i _ => ?_
      simp only [List.length_append, List.length_singleton, Function.comp]
      congr 1
      omega
    · simp
theorem sAugIx_ok {p : D → D → S → Res D} {fo fi fe : Ev} {e : En} {s s' : S} {n : Nat} {k : Int} {x y z : D} (h1 : fo e s = .ok (.ref n) s) (h2 : fi e s = .ok (.int k) s) (h3 : pIx (.ref n) (.int k) s = .ok x s) (h4 : fe e s = .ok y s) (h5 : p x y s = .ok z s) (h6 : setD (.ref n) (.int k) z s = some s') : sAugIx p fo fi fe e s = .ok (.nx e) s' := by
  unfold sAugIx
  simp only [sB_eq, h1, h2, h3, h4, h5, h6]
theorem sStore_ok {fv fo fi : Ev} {e : En} {s s1 s2 s3 s' : S} {v o i : D} (h1 : fv e s = .ok v s1) (h2 : fo e s1 = .ok o s2) (h3 : fi e s2 = .ok i s3) (h4 : setD o i v s3 = some s') : sStore fv fo fi e s = .ok (.nx e) s' := by
  unfold sStore
  simp only [sB_eq, h1, h2, h3, h4]
theorem setD_nat {n j : Nat} {v : D} {s : S} {ds : List D} (h : s[n]? = some ds) (hj : j < ds.length) : setD (.ref n) (.int j) v s = some (s.set n (ds.set j v)) := by
  have e : ixN ds.length (j : Int) = some j := by
    unfold ixN
    rw [if_pos (by omega), if_pos (by omega), Int.toNat_natCast]
  simp only [setD, h, e]
/-! ### the law's source of numbers: a list of the store, [cells, place, rest, seed] -/
structure Src where
  cs : List Int
  at_ : Nat
  acc : Int
  seed : Int
def Src.enc (x : Src) : List D := [.lst (x.cs.map D.int), .int x.at_, .int x.acc, .int x.seed]
structure Src.Ok (x : Src) : Prop where
  acc : 0 ≤ x.acc
end Cf

set_option linter.all false
set_option maxHeartbeats 1000000
/-! Cf, part Q: sums, rows in order, tables with equal sums. Plain Lean. -/
namespace Cf
/-! ### sums -/
def sg (f : Nat → Int) : Nat → Int
  | 0 => 0
  | n + 1 => sg f n + f n
theorem sg_congr {f g : Nat → Int} : ∀ n, (∀ i, i < n → f i = g i) → sg f n = sg g n
  | 0, _ => rfl
  | n + 1, h => by
    unfold sg
    rw [sg_congr n fun i hi => h i (by omega), h n (by omega)]
theorem sg_le {f g : Nat → Int} : ∀ n, (∀ i, i < n → f i ≤ g i) → sg f n ≤ sg g n
  | 0, _ => Int.le_refl _
  | n + 1, h => by
    have h1 := sg_le n fun i hi => h i (by omega)
    have h2 := h n (by omega)
    unfold sg
    omega
theorem sg_zero : ∀ n, sg (fun _ => 0) n = 0
  | 0 => rfl
  | n + 1 => by unfold sg; rw [sg_zero n]; rfl
theorem sg_const (c : Int) : ∀ n, sg (fun _ => c) n = n * c
  | 0 => by simp [sg]
  | n + 1 => by
    unfold sg
    rw [sg_const c n, Int.natCast_add, Int.add_mul]
    simp
theorem sg_nonneg {f : Nat → Int} (n : Nat) (h : ∀ i, i < n → 0 ≤ f i) : 0 ≤ sg f n := by
  have := sg_le (f := fun _ => 0) (g := f) n h
  rwa [sg_zero] at this
theorem sg_add (f g : Nat → Int) : ∀ n, sg (fun i => f i + g i) n = sg f n + sg g n
  | 0 => rfl
  | n + 1 => by
    unfold sg
    rw [sg_add f g n]
    omega
theorem sg_sub (f g : Nat → Int) : ∀ n, sg (fun i => f i - g i) n = sg f n - sg g n
  | 0 => rfl
  | n + 1 => by
    unfold sg
    rw [sg_sub f g n]
    omega
theorem sg_mul (c : Int) (f : Nat → Int) : ∀ n, sg (fun i => c * f i) n = c * sg f n
  | 0 => by simp [sg]
  | n + 1 => by
    unfold sg
    rw [sg_mul c f n, Int.mul_add]
theorem sg_swap (f : Nat → Nat → Int) (m : Nat) : ∀ n, sg (fun i => sg (fun j => f i j) m) n = sg (fun j => sg (fun i => f i j) n) m
  | 0 => by
    show (0 : Int) = sg (fun _ => 0) m
    rw [sg_zero]
  | n + 1 => by
    show sg (fun i => sg (fun j => f i j) m) n + sg (fun j => f n j) m = sg (fun j => sg (fun i => f i j) n + f n j) m
    rw [sg_swap f m n, sg_add]
/-- one place alone -/
theorem sg_one (k : Nat) (c : Int) : ∀ n, sg (fun i => if i = k then c else 0) n = if k < n then c else 0
  | 0 => by simp [sg]
  | n + 1 => by
    unfold sg
    rw [sg_one k c n]
    by_cases h : k < n
    · rw [if_pos h, if_neg (by omega), if_pos (by omega)]; omega
    · by_cases h2 : n = k
      · rw [if_neg h, if_pos h2, if_pos (by omega)]; omega
      · rw [if_neg h, if_neg h2, if_neg (by omega)]; omega
theorem sg_pos {f : Nat → Int} : ∀ {n : Nat}, 0 < sg f n → ∃ i, i < n ∧ 0 < f i
  | 0, h => by simp [sg] at h
  | n + 1, h => by
    by_cases h1 : 0 < f n
    · exact ⟨n, by omega, h1⟩
    · unfold sg at h
      obtain ⟨i, a, b⟩ := sg_pos (f := f) (n := n) (by omega)
      exact ⟨i, by omega, b⟩
theorem sg_ge_one {f : Nat → Int} {n k : Nat} (h : ∀ i, i < n → 0 ≤ f i) (hk : k < n) : f k ≤ sg f n := by
  have := sg_le (f := fun i => if i = k then f k else 0) (g := f) n fun i hi => by
    by_cases e : i = k
    · rw [if_pos e, e]; omega
    · rw [if_neg e]; exact h i hi
  rwa [sg_one, if_pos hk] at this
theorem sg_list (f : Nat → Int) : ∀ n, ((List.range n).map f).sum = sg f n
  | 0 => rfl
  | n + 1 => by
    rw [List.range_succ, List.map_append, List.sum_append, sg_list f n]
    simp [sg]
theorem sg_getD : ∀ (l : List Int) (k : Nat), k ≤ l.length → (l.take k).sum = sg (fun i => l.getD i 0) k
  | l, 0, _ => by simp [sg]
  | l, k + 1, h => by
    have hk : k < l.length := by omega
    unfold sg
    rw [← sg_getD l k (by omega), List.take_succ_eq_append_getElem hk, List.sum_append]
    simp [List.getD, List.getElem?_eq_getElem hk]
theorem sum_getD (l : List Int) : l.sum = sg (fun i => l.getD i 0) l.length := by
  have := sg_getD l l.length (Nat.le_refl _)
  rwa [List.take_length] at this
theorem perm_sum {l m : List Int} (h : l.Perm m) : l.sum = m.sum := by
  induction h with
  | nil => rfl
  | cons x _ ih => simp [ih]
  | swap x y l => simp; omega
  | trans _ _ h1 h2 => rw [h1, h2]
/-! ### falling rows -/
def dsc (l : List Int) : List Int := (srtI l).reverse
theorem dsc_perm (l : List Int) : (dsc l).Perm l := (List.reverse_perm _).trans (srtI_perm l)
theorem dsc_len (l : List Int) : (dsc l).length = l.length := (dsc_perm l).length_eq
theorem dsc_sorted (l : List Int) : (dsc l).Pairwise (fun a b => b ≤ a) := by
  unfold dsc
  rw [List.pairwise_reverse]
  exact srtI_sorted l
theorem dsc_eq {l m : List Int} (h : l.Perm m) : dsc l = dsc m := by
  unfold dsc
  rw [sorted_one (((srtI_perm l).trans h).trans (srtI_perm m).symm) (srtI_sorted l) (srtI_sorted m)]
theorem dsc_one {l m : List Int} (h : l.Perm m) (hm : m.Pairwise (fun a b => b ≤ a)) : dsc l = m := by
  unfold dsc
  have h1 : (srtI l).Perm m.reverse := ((srtI_perm l).trans h).trans (List.reverse_perm m).symm
  rw [sorted_one h1 (srtI_sorted l) (by rw [List.pairwise_reverse]; exact hm), List.reverse_reverse]
theorem dsc_mul {c : Int} (hc : 0 ≤ c) (l : List Int) : dsc (l.map (c * ·)) = (dsc l).map (c * ·) := dsc_one ((dsc_perm l).symm.map _) (by
  rw [List.pairwise_map]
  exact (dsc_sorted l).imp fun h => Int.mul_le_mul_of_nonneg_left h hc)
def top (k : Nat) (l : List Int) : Int := ((dsc l).take k).sum
def up (t : Int) (l : List Int) : Int := (l.map fun x => max (x - t) 0).sum
theorem up_perm {l m : List Int} (h : l.Perm m) (t : Int) : up t l = up t m := perm_sum (h.map _)
theorem sum_map_mul (c : Int) : ∀ l : List Int, (l.map (c * ·)).sum = c * l.sum
  | [] => by simp
  | x :: l => by simp only [List.map_cons, List.sum_cons, sum_map_mul c l, Int.mul_add]
theorem top_mul {c : Int} (hc : 0 ≤ c) (k : Nat) (l : List Int) : top k (l.map (c * ·)) = c * top k l := by
  unfold top
  rw [dsc_mul hc, ← List.map_take, sum_map_mul]
theorem up_ge (t : Int) : ∀ l : List Int, 0 ≤ up t l
  | [] => by simp [up]
  | x :: l => by
    have := up_ge t l
    simp only [up, List.map_cons, List.sum_cons] at this ⊢
    omega
theorem up_app (t : Int) (l m : List Int) : up t (l ++ m) = up t l + up t m := by simp [up]
theorem sum_le_up (t : Int) : ∀ l : List Int, l.sum ≤ l.length * t + up t l
  | [] => by simp [up]
  | x :: l => by
    have := sum_le_up t l
    simp only [up, List.map_cons, List.sum_cons, List.length_cons] at this ⊢
    rw [Int.natCast_add, Int.add_mul]
    omega
theorem up_all {t : Int} : ∀ {l : List Int}, (∀ x ∈ l, t ≤ x) → up t l = l.sum - l.length * t
  | [], _ => by simp [up]
  | x :: l, h => by
    have := up_all fun y hy => h y (List.mem_cons_of_mem _ hy)
    have h2 := h x List.mem_cons_self
    simp only [up, List.map_cons, List.sum_cons, List.length_cons] at this ⊢
    rw [Int.natCast_add, Int.add_mul]
    omega
theorem up_none {t : Int} : ∀ {l : List Int}, (∀ x ∈ l, x ≤ t) → up t l = 0
  | [], _ => by simp [up]
  | x :: l, h => by
    have := up_none fun y hy => h y (List.mem_cons_of_mem _ hy)
    have h2 := h x List.mem_cons_self
    simp only [up, List.map_cons, List.sum_cons] at this ⊢
    omega
theorem top_le {k : Nat} {l : List Int} (hk : k ≤ l.length) (t : Int) : top k l ≤ k * t + up t l := by
  have h1 := sum_le_up t ((dsc l).take k)
  have h2 := up_perm (dsc_perm l) t
  have h3 := up_app t ((dsc l).take k) ((dsc l).drop k)
  rw [List.take_append_drop] at h3
  have h4 := up_ge t ((dsc l).drop k)
  rw [List.length_take, dsc_len, Nat.min_eq_left hk] at h1
  unfold top
  omega
theorem top_eq {k : Nat} {l : List Int} (h0 : 0 < k) (hk : k ≤ l.length) : ∃ t : Int, top k l = k * t + up t l := by
  have hl := dsc_len l
  have hk' : k - 1 < (dsc l).length := by omega
  refine ⟨(dsc l)[k - 1], ?_⟩
  have hs := List.pairwise_iff_getElem.mp (dsc_sorted l)
  have h2 := up_perm (dsc_perm l) (dsc l)[k - 1]
  have h3 := up_app (dsc l)[k - 1] ((dsc l).take k) ((dsc l).drop k)
  rw [List.take_append_drop] at h3
  have h5 := up_all (t := (dsc l)[k - 1]) (l := (dsc l).take k) fun x hx => by
    obtain ⟨i, hi, rfl⟩ := List.mem_iff_getElem.mp hx
    rw [List.length_take] at hi
    rw [List.getElem_take]
    by_cases e : i = k - 1
    · subst e; exact Int.le_refl _
    · exact hs i (k - 1) (by omega) (by omega) (by omega)
  have h6 := up_none (t := (dsc l)[k - 1]) (l := (dsc l).drop k) fun x hx => by
    obtain ⟨i, hi, rfl⟩ := List.mem_iff_getElem.mp hx
    rw [List.length_drop] at hi
    rw [List.getElem_drop]
    exact hs (k - 1) (k + i) (by omega) (by omega) (by omega)
  rw [List.length_take, hl, Nat.min_eq_left hk] at h5
  unfold top
  omega
/-- one is a mean of other: equal sums, and no first part of it is larger -/
structure Maj (x y : List Int) : Prop where
  len : x.length = y.length
  sum : x.sum = y.sum
  top : ∀ k, k ≤ x.length → top k x ≤ top k y
theorem Maj.trans {x y z : List Int} (h : Maj x y) (g : Maj y z) : Maj x z := ⟨h.len.trans g.len, h.sum.trans g.sum, fun k hk => Int.le_trans (h.top k hk) (g.top k (by rw [← h.len]; exact hk))⟩
theorem Maj.mul {x y : List Int} {c : Int} (hc : 0 ≤ c) (h : Maj x y) : Maj (x.map (c * ·)) (y.map (c * ·)) := ⟨by simp [h.len], by rw [sum_map_mul, sum_map_mul, h.sum], fun k hk => by
  rw [top_mul hc, top_mul hc]
  exact Int.mul_le_mul_of_nonneg_left (h.top k (by simpa using hk)) hc⟩
theorem maj_both {x y : List Int} (h : Maj x y) (g : ∀ k, k < x.length → Cf.top k y ≤ Cf.top k x) : dsc x = dsc y := by
  have hx := dsc_len x
  have hy := dsc_len y
  have hl := h.len
  have all : ∀ k, k ≤ x.length → Cf.top k x = Cf.top k y := fun k hk => by
    by_cases e : k = x.length
    · have a1 : Cf.top k x = x.sum := by unfold Cf.top; rw [List.take_of_length_le (by omega)]; exact perm_sum (dsc_perm x)
      have a2 : Cf.top k y = y.sum := by unfold Cf.top; rw [List.take_of_length_le (by omega)]; exact perm_sum (dsc_perm y)
      rw [a1, a2, h.sum]
    · exact Int.le_antisymm (h.top k hk) (g k (by omega))
  refine List.ext_getElem (by omega) fun i h1 h2 => ?_
  have b1 := all i (by omega)
  have b2 := all (i + 1) (by omega)
  unfold Cf.top at b1 b2
  rw [List.take_succ_eq_append_getElem h1, List.take_succ_eq_append_getElem h2, List.sum_append, List.sum_append] at b2
  simp at b2
  omega
/-! ### tables with equal sums -/
structure Eqs (n : Nat) (m : Int) (a : Nat → Nat → Int) : Prop where
  nn : ∀ i j, i < n → j < n → 0 ≤ a i j
  row : ∀ i, i < n → sg (fun j => a i j) n = m
  col : ∀ j, j < n → sg (fun i => a i j) n = m
theorem Eqs.le {n : Nat} {m : Int} {a : Nat → Nat → Int} (h : Eqs n m a) {i j : Nat} (hi : i < n) (hj : j < n) : a i j ≤ m := by
  rw [← h.row i hi]
  exact sg_ge_one (fun j hj => h.nn i j hi hj) hj
def app (n : Nat) (a : Nat → Nat → Int) (x : List Int) : List Int := (List.range n).map fun i => sg (fun j => a i j * x.getD j 0) n
theorem up_sg (t : Int) (l : List Int) : up t l = sg (fun i => max (l.getD i 0 - t) 0) l.length := by
  unfold up
  rw [sum_getD, List.length_map]
  refine sg_congr _ fun i hi => ?_
  simp [List.getD, List.getElem?_eq_getElem hi]
theorem app_get {n : Nat} {a : Nat → Nat → Int} {x : List Int} {i : Nat} (hi : i < n) : (app n a x).getD i 0 = sg (fun j => a i j * x.getD j 0) n := by
  simp [app, List.getD, hi]
theorem app_sum {n : Nat} {m : Int} {a : Nat → Nat → Int} {x : List Int} (h : Eqs n m a) (hx : x.length = n) : (app n a x).sum = m * x.sum := by
  unfold app
  rw [sg_list, sg_swap, sum_getD x, hx, ← sg_mul]
  refine sg_congr _ fun j hj => ?_
  rw [← h.col j hj]
  have : sg (fun i => a i j * x.getD j 0) n = sg (fun i => x.getD j 0 * a i j) n := sg_congr _ fun i _ => Int.mul_comm _ _
  rw [this, sg_mul, Int.mul_comm]
theorem app_up {n : Nat} {m : Int} {a : Nat → Nat → Int} {x : List Int} (h : Eqs n m a) (hx : x.length = n) (t : Int) : up (m * t) (app n a x) ≤ m * up t x := by
  rw [up_sg, up_sg, hx, ← sg_mul, show (app n a x).length = n by simp [app]]
  have e1 : sg (fun j => m * max (x.getD j 0 - t) 0) n = sg (fun i => sg (fun j => a i j * max (x.getD j 0 - t) 0) n) n := by
    rw [sg_swap]
    refine sg_congr _ fun j hj => ?_
    have : sg (fun i => a i j * max (x.getD j 0 - t) 0) n = sg (fun i => max (x.getD j 0 - t) 0 * a i j) n := sg_congr _ fun i _ => Int.mul_comm _ _
    rw [this, sg_mul, h.col j hj, Int.mul_comm]
  rw [e1]
  refine sg_le _ fun i hi => ?_
  rw [app_get hi]
  have e2 : sg (fun j => a i j * x.getD j 0) n - m * t = sg (fun j => a i j * (x.getD j 0 - t)) n := by
    rw [← h.row i hi]
    have : sg (fun j => a i j * (x.getD j 0 - t)) n = sg (fun j => a i j * x.getD j 0 - t * a i j) n := sg_congr _ fun j _ => by rw [Int.mul_sub, Int.mul_comm t]
    rw [this, sg_sub, sg_mul, Int.mul_comm t]
  rw [e2]
  have h1 : sg (fun j => a i j * (x.getD j 0 - t)) n ≤ sg (fun j => a i j * max (x.getD j 0 - t) 0) n := sg_le _ fun j hj => Int.mul_le_mul_of_nonneg_left (Int.le_max_left _ _) (h.nn i j hi hj)
  have h2 : 0 ≤ sg (fun j => a i j * max (x.getD j 0 - t) 0) n := sg_nonneg _ fun j hj => Int.mul_nonneg (h.nn i j hi hj) (Int.le_max_right _ _)
  omega
theorem app_maj {n : Nat} {m : Int} {a : Nat → Nat → Int} {x : List Int} (hm : 0 ≤ m) (h : Eqs n m a) (hx : x.length = n) : Maj (app n a x) (x.map (m * ·)) := by
  have hl : (app n a x).length = n := by simp [app]
  refine ⟨by simp [hl, hx], by rw [app_sum h hx, sum_map_mul], fun k hk => ?_⟩
  rw [top_mul hm]
  by_cases h0 : k = 0
  · subst h0; simp [Cf.top]
  · obtain ⟨t, ht⟩ := top_eq (k := k) (l := x) (by omega) (by omega)
    rw [ht]
    have h1 := top_le (k := k) (l := app n a x) hk (m * t)
    have h2 := app_up h hx t
    have h3 : m * (k * t + up t x) = k * (m * t) + m * up t x := by rw [Int.mul_add, Int.mul_left_comm]
    omega
theorem flat_maj (x : List Int) : Maj (List.replicate x.length x.sum) (x.map ((x.length : Int) * ·)) := by
  refine ⟨by simp, by rw [sum_map_mul]; simp, fun k hk => ?_⟩
  rw [top_mul (by omega)]
  have hk' : k ≤ x.length := by simpa using hk
  have e : Cf.top k (List.replicate x.length x.sum) = k * x.sum := by
    unfold Cf.top
    rw [dsc_one (.refl _) (List.pairwise_replicate.mpr (.inr (Int.le_refl _))), List.take_replicate, Nat.min_eq_left hk']
    simp
  rw [e]
  by_cases h0 : k = 0
  · subst h0; simp [Cf.top]
  · obtain ⟨t, ht⟩ := top_eq (k := k) (l := x) (by omega) (by omega)
    rw [ht]
    have h1 := sum_le_up t x
    have h2 := up_ge t x
    have h3 : (k : Int) * x.sum ≤ k * (x.length * t + up t x) := Int.mul_le_mul_of_nonneg_left h1 (by omega)
    have h4 : (k : Int) * up t x ≤ x.length * up t x := Int.mul_le_mul_of_nonneg_right (by omega) h2
    have h5 : (x.length : Int) * (k * t + up t x) = k * (x.length * t) + x.length * up t x := by rw [Int.mul_add, Int.mul_left_comm]
    rw [Int.mul_add] at h3
    omega
end Cf

set_option linter.all false
set_option maxHeartbeats 1000000
/-! Cf, part R: full orders in tables with equal sums; rows made level by steps. Plain Lean. -/
namespace Cf
theorem sg_list_in {φ : Nat → Int} {n : Nat} : ∀ {U : List Nat}, U.Nodup → (∀ u ∈ U, u < n) → (U.map φ).sum = sg (fun i => if i ∈ U then φ i else 0) n
  | [], _, _ => by simp [sg_zero]
  | u :: U, h, hn => by
    obtain ⟨h1, h2⟩ := List.nodup_cons.mp h
    have ih := sg_list_in (φ := φ) (n := n) h2 fun x hx => hn x (List.mem_cons_of_mem _ hx)
    have e : sg (fun i => if i ∈ u :: U then φ i else 0) n = sg (fun i => (if i = u then φ u else 0) + (if i ∈ U then φ i else 0)) n := sg_congr _ fun i _ => by
      by_cases e : i = u
      · subst e
        rw [if_pos List.mem_cons_self, if_pos rfl, if_neg h1]; omega
      · by_cases e2 : i ∈ U
        · rw [if_pos (List.mem_cons_of_mem _ e2), if_neg e, if_pos e2]; omega
        · rw [if_neg (fun c => by rcases List.mem_cons.mp c with c | c; exact e c; exact e2 c), if_neg e, if_neg e2]; rfl
    rw [e, sg_add, sg_one, if_pos (hn u List.mem_cons_self), List.map_cons, List.sum_cons, ih]
theorem sg_lists (f : Nat → Nat → Int) (n : Nat) : ∀ U : List Nat, sg (fun j => (U.map fun t => f t j).sum) n = (U.map fun t => sg (f t) n).sum
  | [] => by simp [sg_zero]
  | u :: U => by
    have : sg (fun j => ((u :: U).map fun t => f t j).sum) n = sg (fun j => f u j + (U.map fun t => f t j).sum) n := rfl
    rw [this, sg_add, sg_lists f n U, List.map_cons, List.sum_cons]
theorem sum_const (c : Int) : ∀ U : List Nat, (U.map fun _ => c).sum = U.length * c
  | [] => by simp
  | u :: U => by
    rw [List.map_cons, List.sum_cons, sum_const c U, List.length_cons, Int.natCast_add, Int.add_mul]
    omega
theorem full_mem {T : List Nat} {r : Nat} (hT : T.Nodup) (hT2 : ∀ t ∈ T, t < r) (hl : T.length = r) {j : Nat} (hj : j < r) : j ∈ T := by
  by_cases c : j ∈ T
  · exact c
  · exfalso
    have e1 := sg_list_in (φ := fun _ => 1) hT hT2
    have e2 : sg (fun i => if i ∈ T then (1 : Int) else 0) r ≤ sg (fun i => 1 - if i = j then 1 else 0) r := sg_le _ fun i _ => by
      by_cases e : i = j
      · subst e; rw [if_neg c, if_pos rfl]; omega
      · rw [if_neg e]; split <;> omega
    rw [sum_const] at e1
    rw [sg_sub, sg_const, sg_one, if_pos hj] at e2
    omega
/-- f matches the first r rows -/
structure Mat (n : Nat) (a : Nat → Nat → Int) (r : Nat) (f : Nat → Nat) : Prop where
  ok : ∀ i, i < r → f i < n ∧ 0 < a i (f i)
  inj : ∀ i j, i < r → j < r → f i = f j → i = j
/-- all rows to r but t -/
structure Mis (n : Nat) (a : Nat → Nat → Int) (r : Nat) (f : Nat → Nat) (T : List Nat) (t : Nat) (g : Nat → Nat) : Prop where
  ok : ∀ i, i < r + 1 → i ≠ t → (∃ k, k < r ∧ g i = f k) ∧ 0 < a i (g i)
  inj : ∀ i j, i < r + 1 → j < r + 1 → i ≠ t → j ≠ t → g i = g j → i = j
  old : ∀ i, i < r → i ∉ T → g i = f i
theorem mat_grow {n : Nat} {m : Int} {a : Nat → Nat → Int} (hm : 0 < m) (h : Eqs n m a) {r : Nat} (hr : r < n) {f : Nat → Nat} (hf : Mat n a r f) :
    ∀ (k : Nat) (T : List Nat), T.Nodup → (∀ t ∈ T, t < r) → r ≤ k + T.length → (∀ t, t ∈ r :: T → ∃ g, Mis n a r f T t g) → ∃ g, Mat n a (r + 1) g := by
  intro k
  induction k with
  | zero =>
    intro T hT hT2 hk hg
    have hlt : T.length ≤ r := by
      have e1 := sg_list_in (φ := fun _ => 1) hT hT2
      have e2 : sg (fun i => if i ∈ T then (1 : Int) else 0) r ≤ sg (fun _ => 1) r := sg_le _ fun i _ => by split <;> omega
      rw [sum_const, ] at e1
      rw [sg_const] at e2
      omega
    exact mat_step hm h hr hf T hT hT2 hg (by intro t' ht' hn; exact absurd (full_mem hT hT2 (by omega) ht') hn)
  | succ k ih =>
    intro T hT hT2 hk hg
    refine mat_step hm h hr hf T hT hT2 hg fun t' ht' hn hg' => ?_
    exact ih (t' :: T) (List.nodup_cons.mpr ⟨hn, hT⟩) (fun t ht => by rcases List.mem_cons.mp ht with rfl | ht; exact ht'; exact hT2 t ht) (by simp only [List.length_cons]; omega) hg'
where
  mat_step {n : Nat} {m : Int} {a : Nat → Nat → Int} (hm : 0 < m) (h : Eqs n m a) {r : Nat} (hr : r < n) {f : Nat → Nat} (hf : Mat n a r f) (T : List Nat) (hT : T.Nodup) (hT2 : ∀ t ∈ T, t < r) (hg : ∀ t, t ∈ r :: T → ∃ g, Mis n a r f T t g)
      (go : ∀ t', t' < r → t' ∉ T → (∀ t, t ∈ r :: t' :: T → ∃ g, Mis n a r f (t' :: T) t g) → ∃ g, Mat n a (r + 1) g) : ∃ g, Mat n a (r + 1) g := by
    have hU : (r :: T).Nodup := List.nodup_cons.mpr ⟨fun c => by have := hT2 r c; omega, hT⟩
    have hU2 : ∀ t ∈ r :: T, t < n := fun t ht => by
      rcases List.mem_cons.mp ht with rfl | ht
      · exact hr
      · have := hT2 t ht; omega
    have hC : (T.map f).Nodup := by
      refine List.pairwise_map.mpr (hT.imp_of_mem fun {x y} hx hy hne e => hne (hf.inj x y (hT2 x hx) (hT2 y hy) e))
    have hC2 : ∀ j ∈ T.map f, j < n := fun j hj => by
      obtain ⟨t, ht, rfl⟩ := List.mem_map.mp hj
      exact (hf.ok t (hT2 t ht)).1
    have ex : ∃ t, t ∈ r :: T ∧ ∃ j, j < n ∧ 0 < a t j ∧ j ∉ T.map f := by
      refine Classical.byContradiction fun hno => ?_
      have no : ∀ t, t ∈ r :: T → ∀ j, j < n → j ∉ T.map f → a t j = 0 := fun t ht j hj hjn => by
        have h0 := h.nn t j (hU2 t ht) hj
        by_cases c : 0 < a t j
        · exact absurd ⟨t, ht, j, hj, c, hjn⟩ hno
        · omega
      have e1 : ((r :: T).map fun t => sg (a t) n).sum = ((r :: T).map fun _ => m).sum := by
        congr 1
        exact List.map_congr_left fun t ht => h.row t (hU2 t ht)
      rw [← sg_lists, sum_const] at e1
      have e2 : sg (fun j => ((r :: T).map fun t => a t j).sum) n ≤ sg (fun j => if j ∈ T.map f then m else 0) n := sg_le _ fun j hj => by
        by_cases c : j ∈ T.map f
        · rw [if_pos c, sg_list_in (φ := fun t => a t j) hU hU2]
          refine Int.le_trans (sg_le _ fun i hi => ?_) (Int.le_of_eq (h.col j hj))
          split
          · exact Int.le_refl _
          · exact h.nn i j hi hj
        · rw [if_neg c]
          have : ((r :: T).map fun t => a t j) = ((r :: T).map fun _ => 0) := List.map_congr_left fun t ht => no t ht j hj c
          rw [this, sum_const]
          omega
      have e3 := sg_list_in (φ := fun _ => m) hC hC2
      rw [sum_const] at e3
      rw [← e3, e1] at e2
      simp only [List.length_cons, List.length_map] at e2
      rw [Int.natCast_add, Int.add_mul] at e2
      omega
    obtain ⟨t, ht, j, hj, hp, hjn⟩ := ex
    obtain ⟨g, hg1⟩ := hg t ht
    have htr : t < r + 1 := by
      rcases List.mem_cons.mp ht with rfl | ht
      · omega
      · have := hT2 t ht; omega
    by_cases c : ∃ t', t' < r ∧ f t' = j
    · obtain ⟨t', ht', hj'⟩ := c
      have hn : t' ∉ T := fun c => hjn (List.mem_map.mpr ⟨t', c, hj'⟩)
      have hne : t' ≠ t := fun e => by
        subst e
        rcases List.mem_cons.mp ht with e | e
        · omega
        · exact hn e
      refine go t' ht' hn fun u hu => ?_
      by_cases e : u = t'
      · subst e
        refine ⟨fun i => if i = t then j else g i, ⟨fun i hi hiu => ?_, fun i k hi hk hiu hku e => ?_, fun i hi hin => ?_⟩⟩
        · by_cases e : i = t
          · simp only [e, if_true]
            exact ⟨⟨u, ht', hj'.symm⟩, hp⟩
          · simp only [if_neg e]
            exact hg1.ok i hi e
        · have hgu : g u = j := by rw [hg1.old u ht' hn, hj']
          by_cases e1 : i = t
          · by_cases e2 : k = t
            · rw [e1, e2]
            · simp only [if_pos e1, if_neg e2] at e
              exact absurd (hg1.inj k u hk (by omega) e2 hne (by rw [hgu, e])) hku
          · by_cases e2 : k = t
            · simp only [if_neg e1, if_pos e2] at e
              exact absurd (hg1.inj i u hi (by omega) e1 hne (by rw [hgu, e])) hiu
            · simp only [if_neg e1, if_neg e2] at e
              exact hg1.inj i k hi hk e1 e2 e
        · have hit : i ≠ t := fun e => by
            subst e
            rcases List.mem_cons.mp ht with e | e
            · omega
            · exact hin (List.mem_cons_of_mem _ e)
          simp only [if_neg hit]
          exact hg1.old i hi fun c => hin (List.mem_cons_of_mem _ c)
      · have hu' : u ∈ r :: T := by
          rcases List.mem_cons.mp hu with rfl | hu
          · exact List.mem_cons_self
          · rcases List.mem_cons.mp hu with e2 | hu
            · exact absurd e2 e
            · exact List.mem_cons_of_mem _ hu
        obtain ⟨g2, hg2⟩ := hg u hu'
        exact ⟨g2, hg2.ok, hg2.inj, fun i hi hin => hg2.old i hi fun c => hin (List.mem_cons_of_mem _ c)⟩
    · have hfj : ∀ i, i < r + 1 → i ≠ t → g i ≠ j := fun i hi hit e => by
        obtain ⟨⟨k, hk, e2⟩, _⟩ := hg1.ok i hi hit
        exact c ⟨k, hk, by rw [← e2, e]⟩
      refine ⟨fun i => if i = t then j else g i, ⟨fun i hi => ?_, fun i k hi hk e => ?_⟩⟩
      · by_cases e : i = t
        · simp only [e, if_true]
          exact ⟨hj, hp⟩
        · simp only [if_neg e]
          obtain ⟨⟨k, hk, e2⟩, h2⟩ := hg1.ok i hi e
          exact ⟨by rw [e2]; exact (hf.ok k hk).1, h2⟩
      · by_cases e1 : i = t
        · by_cases e2 : k = t
          · rw [e1, e2]
          · simp only [if_pos e1, if_neg e2] at e
            exact absurd e.symm (hfj k hk e2)
        · by_cases e2 : k = t
          · simp only [if_neg e1, if_pos e2] at e
            exact absurd e (hfj i hi e1)
          · simp only [if_neg e1, if_neg e2] at e
            exact hg1.inj i k hi hk e1 e2 e
theorem full_order {n : Nat} {m : Int} {a : Nat → Nat → Int} (hm : 0 < m) (h : Eqs n m a) : ∀ r, r ≤ n → ∃ f, Mat n a r f
  | 0, _ => ⟨fun _ => 0, ⟨fun i hi => by omega, fun i j hi => by omega⟩⟩
  | r + 1, hr => by
    obtain ⟨f, hf⟩ := full_order hm h r (by omega)
    refine mat_grow hm h (by omega) hf r [] List.nodup_nil (fun t ht => by cases ht) (by simp) fun t ht => ?_
    have e : t = r := by simpa using ht
    subst e
    exact ⟨f, fun i hi hit => ⟨⟨i, by omega, rfl⟩, (hf.ok i (by omega)).2⟩, fun i j hi hj hit hjt e => hf.inj i j (by omega) (by omega) e, fun i hi _ => rfl⟩
/-! ### all orders of the first r rows -/
def los (n : Nat) (a : Nat → Nat → Int) : Nat → List (List Nat)
  | 0 => [[]]
  | r + 1 => (los n a r).flatMap fun o => ((List.range n).filter fun j => decide (0 < a r j) && !(o.contains j)).map fun j => o ++ [j]
structure Par (n : Nat) (a : Nat → Nat → Int) (r : Nat) (o : List Nat) : Prop where
  len : o.length = r
  nd : o.Nodup
  lt : ∀ x ∈ o, x < n
  pos : ∀ i, i < r → 0 < a i (o.getD i 0)
theorem los_par {n : Nat} {a : Nat → Nat → Int} : ∀ {r : Nat} {o : List Nat}, o ∈ los n a r → Par n a r o
  | 0, o, h => by
    have : o = [] := by simpa [los] using h
    subst this
    exact ⟨rfl, List.nodup_nil, fun x hx => by simp at hx, fun i hi => by omega⟩
  | r + 1, o, h => by
    obtain ⟨p, hp, ho⟩ := List.mem_flatMap.mp h
    obtain ⟨j, hj, rfl⟩ := List.mem_map.mp ho
    have ih := los_par hp
    obtain ⟨h1, h2⟩ := List.mem_filter.mp hj
    simp only [Bool.and_eq_true, decide_eq_true_eq, Bool.not_eq_true', List.contains_eq_mem, decide_eq_false_iff_not] at h2
    refine ⟨by simp [ih.len], ?_, fun x hx => ?_, fun i hi => ?_⟩
    · rw [List.nodup_append]
      exact ⟨ih.nd, List.pairwise_singleton _ _, fun x hx y hy e => by
        have : y = j := by simpa using hy
        subst this
        subst e
        exact h2.2 hx⟩
    · rcases List.mem_append.mp hx with hx | hx
      · exact ih.lt x hx
      · have : x = j := by simpa using hx
        subst this
        exact List.mem_range.mp h1
    · by_cases e : i < r
      · have := ih.pos i e
        rwa [List.getD_eq_getElem?_getD, List.getElem?_append_left (by rw [ih.len]; exact e), ← List.getD_eq_getElem?_getD]
      · have e2 : i = r := by omega
        subst e2
        have : (p ++ [j]).getD i 0 = j := by
          rw [List.getD_eq_getElem?_getD, List.getElem?_append_right (by rw [ih.len]; exact Nat.le_refl _), ih.len]
          simp
        rw [this]
        exact h2.1
theorem los_in {n : Nat} {a : Nat → Nat → Int} {f : Nat → Nat} : ∀ {r : Nat}, Mat n a r f → (List.range r).map f ∈ los n a r
  | 0, _ => by simp [los]
  | r + 1, h => by
    have ih := los_in (f := f) (r := r) ⟨fun i hi => h.ok i (by omega), fun i j hi hj => h.inj i j (by omega) (by omega)⟩
    refine List.mem_flatMap.mpr ⟨_, ih, ?_⟩
    rw [List.range_succ, List.map_append]
    refine List.mem_map.mpr ⟨f r, List.mem_filter.mpr ⟨List.mem_range.mpr (h.ok r (by omega)).1, ?_⟩, rfl⟩
    simp only [Bool.and_eq_true, decide_eq_true_eq, Bool.not_eq_true', List.contains_eq_mem, decide_eq_false_iff_not]
    refine ⟨(h.ok r (by omega)).2, fun c => ?_⟩
    obtain ⟨i, hi, e⟩ := List.mem_map.mp c
    have hi' := List.mem_range.mp hi
    have := h.inj i r (by omega) (by omega) e
    omega
theorem len_flatMap {α β : Type} {f : α → List β} {c : Nat} : ∀ {l : List α}, (∀ x ∈ l, (f x).length ≤ c) → (l.flatMap f).length ≤ l.length * c
  | [], _ => by simp
  | x :: l, h => by
    have ih := len_flatMap (l := l) fun y hy => h y (List.mem_cons_of_mem _ hy)
    have h2 := h x List.mem_cons_self
    rw [List.flatMap_cons, List.length_append, List.length_cons, Nat.add_mul]
    omega
theorem los_len {n : Nat} {a : Nat → Nat → Int} : ∀ r, (los n a r).length ≤ n ^ r
  | 0 => by simp [los]
  | r + 1 => by
    have ih := los_len (n := n) (a := a) r
    refine Nat.le_trans (len_flatMap (c := n) fun o _ => ?_) (by rw [Nat.pow_succ]; exact Nat.mul_le_mul_right _ ih)
    rw [List.length_map]
    refine Nat.le_trans (List.length_filter_le _ _) (by simp)
/-! ### whole orders -/
structure Ord (n : Nat) (o : List Nat) : Prop where
  len : o.length = n
  nd : o.Nodup
  lt : ∀ x ∈ o, x < n
theorem Ord.mem {n : Nat} {o : List Nat} (h : Ord n o) {j : Nat} (hj : j < n) : j ∈ o := full_mem h.nd h.lt h.len hj
theorem Ord.lt' {n : Nat} {o : List Nat} (h : Ord n o) {i : Nat} (hi : i < n) : o.getD i 0 < n := by
  have : i < o.length := by rw [h.len]; exact hi
  rw [List.getD_eq_getElem?_getD, List.getElem?_eq_getElem this]
  exact h.lt _ (List.getElem_mem this)
theorem Ord.row {n : Nat} {o : List Nat} (h : Ord n o) (z : Int) {i : Nat} (hi : i < n) : sg (fun j => if o.getD i 0 = j then z else 0) n = z := by
  have : sg (fun j => if o.getD i 0 = j then z else 0) n = sg (fun j => if j = o.getD i 0 then z else 0) n := sg_congr _ fun j _ => by
    by_cases e : o.getD i 0 = j
    · rw [if_pos e, if_pos e.symm]
    · rw [if_neg e, if_neg fun c => e c.symm]
  rw [this, sg_one, if_pos (h.lt' hi)]
theorem Ord.col {n : Nat} {o : List Nat} (h : Ord n o) (z : Int) {j : Nat} (hj : j < n) : sg (fun i => if o.getD i 0 = j then z else 0) n = z := by
  obtain ⟨k, hk, e⟩ := List.mem_iff_getElem.mp (h.mem hj)
  have hk' : k < n := by rw [← h.len]; exact hk
  have : sg (fun i => if o.getD i 0 = j then z else 0) n = sg (fun i => if i = k then z else 0) n := sg_congr _ fun i hi => by
    have hi' : i < o.length := by rw [h.len]; exact hi
    rw [List.getD_eq_getElem?_getD, List.getElem?_eq_getElem hi']
    show (if o[i] = j then z else 0) = _
    by_cases e2 : i = k
    · subst e2; rw [if_pos e, if_pos rfl]
    · rw [if_neg e2, if_neg fun c => e2 ((List.getElem_inj h.nd).mp (c.trans e.symm))]
  rw [this, sg_one, if_pos hk']
def take1 (a : Nat → Nat → Int) (o : List Nat) (z : Int) : Nat → Nat → Int := fun i j => a i j - if o.getD i 0 = j then z else 0
theorem Eqs.take {n : Nat} {m z : Int} {a : Nat → Nat → Int} {o : List Nat} (h : Eqs n m a) (ho : Ord n o) (h0 : ∀ i, i < n → z ≤ a i (o.getD i 0)) : Eqs n (m - z) (take1 a o z) := by
  refine ⟨fun i j hi hj => ?_, fun i hi => ?_, fun j hj => ?_⟩
  · unfold take1
    by_cases e : o.getD i 0 = j
    · rw [if_pos e, ← e]
      have := h0 i hi
      omega
    · rw [if_neg e]
      have := h.nn i j hi hj
      omega
  · unfold take1
    rw [sg_sub, h.row i hi, ho.row z hi]
  · unfold take1
    rw [sg_sub (fun i => a i j) (fun i => if o.getD i 0 = j then z else 0), h.col j hj, ho.col z hj]
theorem Eqs.zero (n : Nat) : Eqs n 0 fun _ _ => 0 := ⟨fun _ _ _ _ => Int.le_refl _, fun _ _ => sg_zero n, fun _ _ => sg_zero n⟩
theorem Eqs.is_zero {n : Nat} {a : Nat → Nat → Int} (h : Eqs n 0 a) {i j : Nat} (hi : i < n) (hj : j < n) : a i j = 0 := by
  have h1 := h.le hi hj
  have h2 := h.nn i j hi hj
  omega
end Cf

set_option linter.all false
set_option maxHeartbeats 1000000
/-! Cf, part S: rows made level by steps. Plain Lean. -/
namespace Cf
def mv (r : List Int) (h l : Nat) (z : Int) : List Int := (List.range r.length).zipWith (fun i x => if i = h then x - z else if i = l then x + z else x) r
@[simp] theorem mv_len (r : List Int) (h l : Nat) (z : Int) : (mv r h l z).length = r.length := by simp [mv]
theorem mv_get {r : List Int} {h l : Nat} {z : Int} {i : Nat} (hi : i < r.length) : (mv r h l z).getD i 0 = if i = h then r.getD i 0 - z else if i = l then r.getD i 0 + z else r.getD i 0 := by
  have e : (mv r h l z)[i]'(by simpa using hi) = if i = h then r[i] - z else if i = l then r[i] + z else r[i] := by simp [mv]
  rw [List.getD_eq_getElem?_getD, List.getElem?_eq_getElem (by simpa using hi), List.getD_eq_getElem?_getD, List.getElem?_eq_getElem hi]
  exact e
def df (u r : List Int) (i : Nat) : Int := r.getD i 0 - u.getD i 0
def mis (u r : List Int) : Int := sg (fun i => if df u r i = 0 then 0 else 1) u.length
structure Lev (u r : List Int) : Prop where
  len : r.length = u.length
  dn : ∀ i j, i < j → j < u.length → u.getD j 0 ≤ u.getD i 0
  pre : ∀ k, k ≤ u.length → 0 ≤ sg (df u r) k
  all : sg (df u r) u.length = 0
theorem sg_stop {f : Nat → Int} {k : Nat} : ∀ n, k ≤ n → (∀ i, k ≤ i → i < n → f i = 0) → sg f n = sg f k
  | 0, hk, _ => by rw [show k = 0 by omega]
  | n + 1, hk, h => by
    by_cases e : k = n + 1
    · rw [e]
    · have ih := sg_stop n (by omega) fun i h1 h2 => h i h1 (by omega)
      unfold sg
      rw [ih, h n (by omega) (by omega)]
      cases k <;> simp [sg]
theorem lev_eq {u r : List Int} (hl : r.length = u.length) (h : ∀ i, i < u.length → df u r i = 0) : r = u := by
  refine List.ext_getElem hl fun i h1 h2 => ?_
  have := h i h2
  unfold df at this
  rw [List.getD_eq_getElem?_getD, List.getElem?_eq_getElem h1, List.getD_eq_getElem?_getD, List.getElem?_eq_getElem h2] at this
  simp at this
  omega
theorem last_max {p : Nat → Bool} {n h : Nat} (e : ((List.range n).filter p).getLast? = some h) : h < n ∧ p h = true ∧ ∀ i, i < n → h < i → p i = false := by
  have hs : ((List.range n).filter p).Pairwise (· < ·) := List.pairwise_lt_range.filter _
  obtain ⟨ys, ey⟩ := List.getLast?_eq_some_iff.mp e
  have hm : h ∈ (List.range n).filter p := by rw [ey]; simp
  obtain ⟨h1, h2⟩ := List.mem_filter.mp hm
  refine ⟨List.mem_range.mp h1, h2, fun i hi hh => ?_⟩
  cases c : p i with
  | false => rfl
  | true =>
    have hi' : i ∈ ys ++ [h] := by rw [← ey]; exact List.mem_filter.mpr ⟨List.mem_range.mpr hi, c⟩
    rw [ey, List.pairwise_append] at hs
    rcases List.mem_append.mp hi' with c2 | c2
    · have := hs.2.2 i c2 h (by simp)
      omega
    · have : i = h := by simpa using c2
      omega
theorem head_min {p : Nat → Bool} {n b l : Nat} (e : (((List.range n).map (b + ·)).filter p).head? = some l) : b ≤ l ∧ l < b + n ∧ p l = true ∧ ∀ i, b ≤ i → i < l → p i = false := by
  have hs : (((List.range n).map (b + ·)).filter p).Pairwise (· < ·) := by
    refine List.Pairwise.filter _ ?_
    rw [List.pairwise_map]
    exact List.pairwise_lt_range.imp fun h => by omega
  cases c : ((List.range n).map (b + ·)).filter p with
  | nil => rw [c] at e; cases e
  | cons x xs =>
    rw [c] at e hs
    cases e
    have hm : l ∈ ((List.range n).map (b + ·)).filter p := by rw [c]; exact List.mem_cons_self
    obtain ⟨h1, h2⟩ := List.mem_filter.mp hm
    obtain ⟨k, hk, hk2⟩ := List.mem_map.mp h1
    have hk3 := List.mem_range.mp hk
    refine ⟨by omega, by omega, h2, fun i hi hil => ?_⟩
    cases c2 : p i with
    | false => rfl
    | true =>
      have hi' : i ∈ l :: xs := by rw [← c]; exact List.mem_filter.mpr ⟨List.mem_map.mpr ⟨i - b, List.mem_range.mpr (by omega), by omega⟩, c2⟩
      rcases List.mem_cons.mp hi' with c3 | c3
      · omega
      · have := (List.pairwise_cons.mp hs).1 i c3
        omega
theorem last_some {p : Nat → Bool} {n i : Nat} (hi : i < n) (hp : p i = true) : ∃ h, ((List.range n).filter p).getLast? = some h := by
  cases c : ((List.range n).filter p).getLast? with
  | some h => exact ⟨h, rfl⟩
  | none =>
    rw [List.getLast?_eq_none_iff] at c
    have : i ∈ (List.range n).filter p := List.mem_filter.mpr ⟨List.mem_range.mpr hi, hp⟩
    rw [c] at this
    cases this
theorem head_some {p : Nat → Bool} {n b i : Nat} (h1 : b ≤ i) (h2 : i < b + n) (hp : p i = true) : ∃ l, (((List.range n).map (b + ·)).filter p).head? = some l := by
  cases c : (((List.range n).map (b + ·)).filter p).head? with
  | some h => exact ⟨h, rfl⟩
  | none =>
    rw [List.head?_eq_none_iff] at c
    have : i ∈ ((List.range n).map (b + ·)).filter p := List.mem_filter.mpr ⟨List.mem_map.mpr ⟨i - b, List.mem_range.mpr (by omega), by omega⟩, hp⟩
    rw [c] at this
    cases this
def stepZ (u r : List Int) (h l : Nat) : Int := if u.getD l 0 - r.getD l 0 < r.getD h 0 - u.getD h 0 then u.getD l 0 - r.getD l 0 else r.getD h 0 - u.getD h 0
theorem lev_step {u r : List Int} (h : Lev u r) (hne : r ≠ u) : ∃ hh ll,
    ((List.range r.length).filter fun i => decide (u.getD i 0 < r.getD i 0)).getLast? = some hh ∧
    (((List.range (r.length - (hh + 1))).map (hh + 1 + ·)).filter fun i => decide (r.getD i 0 < u.getD i 0)).head? = some ll ∧
    hh < r.length ∧ ll < r.length ∧ 0 ≤ stepZ u r hh ll ∧ stepZ u r hh ll ≤ r.getD hh 0 - r.getD ll 0 ∧ Lev u (mv r hh ll (stepZ u r hh ll)) ∧ mis u (mv r hh ll (stepZ u r hh ll)) + 1 ≤ mis u r := by
  have ex : ∃ i, i < r.length ∧ u.getD i 0 < r.getD i 0 := by
    refine Classical.byContradiction fun hno => ?_
    have no : ∀ i, i < u.length → df u r i ≤ 0 := fun i hi => by
      unfold df
      by_cases c : u.getD i 0 < r.getD i 0
      · exact absurd ⟨i, by rw [h.len]; exact hi, c⟩ hno
      · omega
    refine hne (lev_eq h.len fun i hi => ?_)
    have h1 := no i hi
    have h2 := sg_ge_one (f := fun i => 0 - df u r i) (n := u.length) (k := i) (fun j hj => by have := no j hj; omega) hi
    rw [sg_sub (fun _ => 0) (df u r), sg_zero, h.all] at h2
    omega
  obtain ⟨i0, hi0, hp0⟩ := ex
  obtain ⟨hh, eh⟩ := last_some (p := fun i => decide (u.getD i 0 < r.getD i 0)) hi0 (by simpa using hp0)
  obtain ⟨h1, h2, h3⟩ := last_max eh
  have h2' : 0 < df u r hh := by unfold df; have := of_decide_eq_true h2; omega
  have h3' : ∀ i, i < u.length → hh < i → df u r i ≤ 0 := fun i hi hhi => by
    have := of_decide_eq_false (h3 i (by rw [h.len]; exact hi) hhi)
    unfold df
    omega
  have hn : hh < u.length := by rw [← h.len]; exact h1
  have hpre := h.pre hh (by omega)
  have hpre1 : sg (df u r) (hh + 1) = sg (df u r) hh + df u r hh := rfl
  have ex2 : ∃ i, hh + 1 ≤ i ∧ i < r.length ∧ r.getD i 0 < u.getD i 0 := by
    refine Classical.byContradiction fun hno => ?_
    have := sg_stop (f := df u r) (k := hh + 1) u.length (by omega) fun i a b => by
      have c1 := h3' i b (by omega)
      by_cases c : r.getD i 0 < u.getD i 0
      · exact absurd ⟨i, a, by rw [h.len]; exact b, c⟩ hno
      · unfold df at c1 ⊢; omega
    rw [h.all] at this
    omega
  obtain ⟨i1, ha1, hb1, hp1⟩ := ex2
  obtain ⟨ll, el⟩ := head_some (p := fun i => decide (r.getD i 0 < u.getD i 0)) (n := r.length - (hh + 1)) ha1 (by omega) (by simpa using hp1)
  obtain ⟨g1, g2, g3, g4⟩ := head_min el
  have g3' : df u r ll < 0 := by unfold df; have := of_decide_eq_true g3; omega
  have g2' : ll < u.length := by have := h.len; omega
  have hz : stepZ u r hh ll = if - df u r ll < df u r hh then - df u r ll else df u r hh := by
    unfold stepZ df
    by_cases c : u.getD ll 0 - r.getD ll 0 < r.getD hh 0 - u.getD hh 0
    · rw [if_pos c, if_pos (by omega)]; omega
    · rw [if_neg c, if_neg (by omega)]
  have hz0 : 0 < stepZ u r hh ll := by rw [hz]; split <;> omega
  have hz1 : stepZ u r hh ll ≤ df u r hh := by rw [hz]; split <;> omega
  have hz2 : stepZ u r hh ll = df u r hh ∨ stepZ u r hh ll = - df u r ll := by rw [hz]; split <;> simp
  have hd : ∀ i, i < u.length → df u (mv r hh ll (stepZ u r hh ll)) i = df u r i - (if i = hh then stepZ u r hh ll else 0) + (if i = ll then stepZ u r hh ll else 0) := fun i hi => by
    unfold df
    rw [mv_get (by rw [h.len]; exact hi)]
    by_cases e : i = hh
    · rw [if_pos e, if_pos e, if_neg (by omega)]; omega
    · rw [if_neg e, if_neg e]
      by_cases e2 : i = ll
      · rw [if_pos e2, if_pos e2]; omega
      · rw [if_neg e2, if_neg e2]; omega
  have hsum : ∀ k, k ≤ u.length → sg (df u (mv r hh ll (stepZ u r hh ll))) k = sg (df u r) k - (if hh < k then stepZ u r hh ll else 0) + (if ll < k then stepZ u r hh ll else 0) := fun k hk => by
    rw [sg_congr k fun i hi => hd i (by omega), sg_add (fun i => df u r i - (if i = hh then stepZ u r hh ll else 0)), sg_sub, sg_one, sg_one]
  refine ⟨hh, ll, eh, el, h1, by omega, by omega, ?_, ⟨by simp [h.len], h.dn, fun k hk => ?_, ?_⟩, ?_⟩
  · have := h.dn hh ll (by omega) g2'
    unfold df at hz1 g3'
    omega
  · rw [hsum k hk]
    have hp := h.pre k hk
    by_cases a1 : hh < k
    · by_cases a2 : ll < k
      · rw [if_pos a1, if_pos a2]; omega
      · rw [if_pos a1, if_neg a2]
        have := sg_stop (f := df u r) (k := hh + 1) k (by omega) fun i b1 b2 => by
          have c1 := h3' i (by omega) (by omega)
          have c2 := of_decide_eq_false (g4 i (by omega) (by omega))
          unfold df at c1 ⊢
          omega
        omega
    · rw [if_neg a1, if_neg (by omega)]; omega
  · rw [hsum _ (Nat.le_refl _), h.all, if_pos hn, if_pos g2']; omega
  · unfold mis
    rcases hz2 with hz2 | hz2
    · have := sg_le (f := fun i => if df u (mv r hh ll (stepZ u r hh ll)) i = 0 then 0 else 1) (g := fun i => (if df u r i = 0 then (0 : Int) else 1) - if i = hh then 1 else 0) u.length fun i hi => by
        rw [hd i hi]
        by_cases e : i = hh
        · subst e
          rw [if_pos rfl, if_pos rfl, if_neg (show ¬ i = ll by omega), if_pos (by omega), if_neg (show ¬ df u r i = 0 by omega)]
          omega
        · rw [if_neg e, if_neg e]
          by_cases e2 : i = ll
          · subst e2
            rw [if_pos rfl, if_neg (show ¬ df u r i = 0 by omega)]
            split <;> omega
          · rw [if_neg e2]
            have : df u r i - 0 + 0 = df u r i := by omega
            rw [this]
            split <;> omega
      rw [sg_sub, sg_one, if_pos hn] at this
      omega
    · have := sg_le (f := fun i => if df u (mv r hh ll (stepZ u r hh ll)) i = 0 then 0 else 1) (g := fun i => (if df u r i = 0 then (0 : Int) else 1) - if i = ll then 1 else 0) u.length fun i hi => by
        rw [hd i hi]
        by_cases e : i = ll
        · subst e
          rw [if_pos rfl, if_pos rfl, if_neg (show ¬ i = hh by omega), if_pos (by omega), if_neg (show ¬ df u r i = 0 by omega)]
          omega
        · rw [if_neg e, if_neg e]
          by_cases e2 : i = hh
          · subst e2
            rw [if_pos rfl, if_neg (show ¬ df u r i = 0 by omega)]
            split <;> omega
          · rw [if_neg e2]
            have : df u r i - 0 + 0 = df u r i := by omega
            rw [this]
            split <;> omega
      rw [sg_sub, sg_one, if_pos g2'] at this
      omega
theorem mis_nonneg (u r : List Int) : 0 ≤ mis u r := sg_nonneg _ fun i _ => by split <;> omega
theorem mis_le (u r : List Int) : mis u r ≤ u.length := by
  have := sg_le (f := fun i => if df u r i = 0 then (0 : Int) else 1) (g := fun _ => 1) u.length fun i _ => by split <;> omega
  rw [sg_const] at this
  unfold mis
  omega
/-- rows of the same sum, no first part of the first the larger: they can be made level -/
theorem lev_of {x y : List Int} (h : Maj x y) : Lev (dsc x) (dsc y) := by
  have hl : (dsc y).length = (dsc x).length := by rw [dsc_len, dsc_len, h.len]
  have hp : ∀ k, k ≤ (dsc x).length → sg (df (dsc x) (dsc y)) k = top k y - top k x := fun k hk => by
    have : sg (df (dsc x) (dsc y)) k = sg (fun i => (dsc y).getD i 0 - (dsc x).getD i 0) k := rfl
    rw [this, sg_sub, ← sg_getD _ k hk, ← sg_getD _ k (by rw [hl]; exact hk)]
    rfl
  refine ⟨hl, fun i j hij hj => ?_, fun k hk => ?_, ?_⟩
  · rw [List.getD_eq_getElem?_getD, List.getElem?_eq_getElem hj, List.getD_eq_getElem?_getD, List.getElem?_eq_getElem (by omega : i < (dsc x).length)]
    exact List.pairwise_iff_getElem.mp (dsc_sorted x) i j (by omega) hj hij
  · rw [hp k hk]
    have := h.top k (by rw [← dsc_len]; exact hk)
    omega
  · rw [hp _ (Nat.le_refl _)]
    unfold top
    rw [List.take_of_length_le (Nat.le_refl _), List.take_of_length_le (by omega), perm_sum (dsc_perm x), perm_sum (dsc_perm y), h.sum]
    omega
end Cf

set_option linter.all false
/-! the mirrors of the defs of k54, printed by gen.py -/
namespace K54
open PySem L2 Cf
/-- 0 script, 1 seed, 2 cell -/
def B_law_begin : Es :=
  sSeq (sSet 1 (eC (.int 5)))
  (sSeq (sFor (eIt itSq (eV 0)) (.nm 2) (sSet 1 (e2 pMod (e2 (pAdd false) (e2 (pAdd false) (e2 (pMul false) (eV 1) (eC (.int 48271))) (e2 pMod (eA pInt (eK (eV 2) (eN))) (eC (.int 2147483629)))) (eC (.int 11))) (eC (.int 2147483647)))))
  (sRet (eL true (eK (eA (pLst false) (eK (eV 0) (eN))) (eK (eC (.int 0)) (eK (eC (.int 0)) (eK (eV 1) (eN))))))))
def M_law_begin : List D → S → Res D := runD 3 B_law_begin
/-- 0 value -/
def B_is_integer : Es :=
  sRet (eAnd (e1 (pIsi "int") (eV 0)) (eNot (e1 (pIsi "bool") (eV 0))))
def M_is_integer : List D → S → Res D := runD 1 B_is_integer
/-- 0 one, 1 other, 2 row, 3 each -/
def B_check_rows : Es :=
  sSeq (sFor (eIt itSq (eT (eK (eV 0) (eK (eV 1) (eN))))) (.nm 2) (sSeq (sIf (bOr (bNot (bT (e1 (pIsi "tuple") (eV 2)))) (bNot (bB (eCh pLe pLe (eC (.int 1)) (eA pLen (eK (eV 2) (eN))) (eC (.int 6)))))) (sBad) (sNil))
  (sIf (bT (eA pAny (eK (eLc false (eIt itSq (eV 2)) [3] (.nm 3) bYes (eNot (eF 1 M_is_integer (eK (eV 3) (eN))))) (eN)))) (sBad) (sNil))))
  (sIf (bB (e2 pNe (eA pLen (eK (eV 0) (eN))) (eA pLen (eK (eV 1) (eN))))) (sBad) (sNil))
def M_check_rows : List D → S → Res D := runD 4 B_check_rows
/-- 0 one, 1 other, 2 ups, 3 downs, 4 size, 5 row, 6 found, 7 high, 8 low, 9 step, 10 at, 11 each -/
def B_mean_paper : Es :=
  sSeq (sExpr (eF 2 M_check_rows (eK (eV 0) (eK (eV 1) (eN)))))
  (sSeq (sIf (bB (e2 pNe (eA pSum (eK (eV 0) (eN))) (eA pSum (eK (eV 1) (eN))))) (sRet (eT (eK (eC (.str "sum")) (eN)))) (sNil))
  (sSeq (sAsg (.tp [.nm 2, .nm 3]) (eT (eK (e1 (pSoR false) (eV 0)) (eK (e1 (pSoR false) (eV 1)) (eN)))))
  (sSeq (sFor (eItA pRng2 (eK (eC (.int 1)) (eK (eA pLen (eK (eV 0) (eN))) (eN)))) (.nm 4) (sIf (bB (e2 pGt (eA pSum (eK (eSl false (eV 2) oNo (oI (eV 4))) (eN))) (eA pSum (eK (eSl false (eV 3) oNo (oI (eV 4))) (eN))))) (sRet (eT (eK (eC (.str "top")) (eK (eV 4) (eN))))) (sNil)))
  (sSeq (sSet 5 (eV 3))
  (sSeq (sSet 6 (eL true (eN)))
  (sSeq (sWhile 1000000 (bB (e2 pNe (eV 5) (eV 2))) (sSeq (sSet 7 (e2 pIx (eLc false (eItA pRng1 (eK (eA pLen (eK (eV 5) (eN))) (eN))) [10] (.nm 10) (bB (e2 pGt (e2 pIx (eV 5) (eV 10)) (e2 pIx (eV 2) (eV 10)))) (eV 10)) (e1 pNeg (eC (.int 1)))))
  (sSeq (sSet 8 (e2 pIx (eLc false (eItA pRng2 (eK (e2 (pAdd false) (eV 7) (eC (.int 1))) (eK (eA pLen (eK (eV 5) (eN))) (eN)))) [10] (.nm 10) (bB (e2 pLt (e2 pIx (eV 5) (eV 10)) (e2 pIx (eV 2) (eV 10)))) (eV 10)) (eC (.int 0))))
  (sSeq (sSet 9 (eA pMin (eK (e2 pSub (e2 pIx (eV 5) (eV 7)) (e2 pIx (eV 2) (eV 7))) (eK (e2 pSub (e2 pIx (eV 2) (eV 8)) (e2 pIx (eV 5) (eV 8))) (eN)))))
  (sSeq (sSet 5 (eLc false (eItA pEnum (eK (eV 5) (eN))) [10, 11] (.tp [.nm 10, .nm 11]) bYes (eIf (bB (e2 pEq (eV 10) (eV 7))) (e2 pSub (eV 11) (eV 9)) (eIf (bB (e2 pEq (eV 10) (eV 8))) (e2 (pAdd false) (eV 11) (eV 9)) (eV 11)))))
  (sExpr (eM mApp (eV 6) (eK (eT (eK (eV 7) (eK (eV 8) (eK (eV 9) (eN))))) (eN)))))))))
  (sRet (eT (eK (eC (.str "steps")) (eK (eA pTup (eK (eV 6) (eN))) (eN)))))))))))
def M_mean_paper : List D → S → Res D := runD 12 B_mean_paper
/-- 0 table, 1 row, 2 each -/
def B_check_table : Es :=
  sSeq (sIf (bOr (bNot (bT (e1 (pIsi "tuple") (eV 0)))) (bNot (bB (eCh pLe pLe (eC (.int 1)) (eA pLen (eK (eV 0) (eN))) (eC (.int 6)))))) (sBad) (sNil))
  (sFor (eIt itSq (eV 0)) (.nm 1) (sSeq (sIf (bOr (bNot (bT (e1 (pIsi "tuple") (eV 1)))) (bB (e2 pNe (eA pLen (eK (eV 1) (eN))) (eA pLen (eK (eV 0) (eN)))))) (sBad) (sNil))
  (sIf (bT (eA pAny (eK (eLc false (eIt itSq (eV 1)) [2] (.nm 2) bYes (eOr (eNot (eF 1 M_is_integer (eK (eV 2) (eN)))) (eNot (eCh pLe pLe (eC (.int 0)) (eV 2) (eC (.int 60)))))) (eN)))) (sBad) (sNil))))
def M_check_table : List D → S → Res D := runD 3 B_check_table
/-- 0 table, 1 total, 2 at, 3 row -/
def B_sums_fault : Es :=
  sSeq (sSet 1 (eA pSum (eK (e2 pIx (eV 0) (eC (.int 0))) (eN))))
  (sSeq (sFor (eItA pEnum (eK (eV 0) (eN))) (.tp [.nm 2, .nm 3]) (sIf (bB (e2 pNe (eA pSum (eK (eV 3) (eN))) (eV 1))) (sRet (eT (eK (eC (.str "row")) (eK (eV 2) (eN))))) (sNil)))
  (sSeq (sFor (eItA pRng1 (eK (eA pLen (eK (eV 0) (eN))) (eN))) (.nm 2) (sIf (bB (e2 pNe (eA pSum (eK (eLc false (eIt itSq (eV 0)) [3] (.nm 3) bYes (e2 pIx (eV 3) (eV 2))) (eN))) (eV 1))) (sRet (eT (eK (eC (.str "column")) (eK (eV 2) (eN))))) (sNil)))
  (sRet (eC .non))))
def M_sums_fault : List D → S → Res D := runD 4 B_sums_fault
/-- 0 table, 1 rows, 2 row, 3 order, 4 at, 5 each -/
def B_least_order : Es :=
  sSeq (sSet 1 (eL false (eK (eT (eN)) (eN))))
  (sSeq (sFor (eIt itSq (eV 0)) (.nm 2) (sSet 1 (eLc2 false (eIt itSq (eV 1)) [3, 4, 5] (.nm 3) bYes (eItA pEnum (eK (eV 2) (eN))) [4, 5] (.tp [.nm 4, .nm 5]) (bAnd (bB (e2 pGt (eV 5) (eC (.int 0)))) (bB (e2 pNi (eV 4) (eV 3)))) (e2 (pAdd false) (eV 3) (eT (eK (eV 4) (eN)))))))
  (sRet (eIf (bT (eV 1)) (e2 pIx (eV 1) (eC (.int 0))) (eC .non))))
def M_least_order : List D → S → Res D := runD 6 B_least_order
/-- 0 table, 1 fault, 2 left, 3 found, 4 order, 5 times, 6 at, 7 to, 8 row -/
def B_orders_paper : Es :=
  sSeq (sExpr (eF 1 M_check_table (eK (eV 0) (eN))))
  (sSeq (sSet 1 (eF 1 M_sums_fault (eK (eV 0) (eN))))
  (sSeq (sIf (bB (e2 pNs (eV 1) (eC .non))) (sRet (eV 1)) (sNil))
  (sSeq (sSet 2 (eLc false (eIt itSq (eV 0)) [8] (.nm 8) bYes (eA (pLst true) (eK (eV 8) (eN)))))
  (sSeq (sSet 3 (eL true (eN)))
  (sSeq (sWhile 1000000 (bB (e2 pGt (eA pSum (eK (e2 pIx (eV 2) (eC (.int 0))) (eN))) (eC (.int 0)))) (sSeq (sSet 4 (eF 1 M_least_order (eK (eV 2) (eN))))
  (sSeq (sSet 5 (eA pMin (eK (eLc false (eItA pEnum (eK (eV 4) (eN))) [6, 7] (.tp [.nm 6, .nm 7]) bYes (e2 pIx (e2 pIx (eV 2) (eV 6)) (eV 7))) (eN))))
  (sSeq (sFor (eItA pEnum (eK (eV 4) (eN))) (.tp [.nm 6, .nm 7]) (sAugIx pSub (e2 pIx (eV 2) (eV 6)) (eV 7) (eV 5)))
  (sExpr (eM mApp (eV 3) (eK (eT (eK (eV 4) (eK (eV 5) (eN)))) (eN))))))))
  (sRet (eT (eK (eC (.str "orders")) (eK (eA pTup (eK (eV 3) (eN))) (eN))))))))))
def M_orders_paper : List D → S → Res D := runD 9 B_orders_paper
/-- 0 d, 1 many, 2 small, 3 digit -/
def B_law_take : Es :=
  sSeq (sIf (bAnd (bB (e2 pEq (e2 pIx (eV 0) (eC (.int 2))) (eC (.int 0)))) (bB (e2 pLt (e2 pIx (eV 0) (eC (.int 1))) (eA pLen (eK (e2 pIx (eV 0) (eC (.int 0))) (eN)))))) (sSeq (sStore (eA pAbs (eK (eA pInt (eK (e2 pIx (e2 pIx (eV 0) (eC (.int 0))) (e2 pIx (eV 0) (eC (.int 1)))) (eN))) (eN))) (eV 0) (eC (.int 2)))
  (sSeq (sStore (e2 (pAdd false) (e2 pIx (eV 0) (eC (.int 1))) (eC (.int 1))) (eV 0) (eC (.int 1)))
  (sIf (bB (e2 pLt (e2 pIx (eV 0) (eC (.int 2))) (e2 pPow (eC (.int 10)) (eC (.int 18))))) (sSeq (sSet 2 (eA pInt (eK (e2 pIx (eV 0) (eC (.int 2))) (eN))))
  (sSeq (sStore (eC (.int 0)) (eV 0) (eC (.int 2)))
  (sRet (e2 pMod (eV 2) (eV 1))))) (sNil)))) (sNil))
  (sSeq (sIf (bB (e2 pGt (e2 pIx (eV 0) (eC (.int 2))) (eC (.int 0)))) (sSeq (sSet 3 (e2 pMod (eA pInt (eK (e2 pIx (eV 0) (eC (.int 2))) (eN))) (eV 1)))
  (sSeq (sStore (e2 pDiv (eA pInt (eK (e2 pIx (eV 0) (eC (.int 2))) (eN))) (eV 1)) (eV 0) (eC (.int 2)))
  (sRet (eV 3)))) (sNil))
  (sSeq (sStore (e2 pMod (eA pInt (eK (e2 (pAdd false) (e2 (pMul false) (e2 pIx (eV 0) (eC (.int 3))) (eC (.int 69621))) (eC (.int 7))) (eN))) (eC (.int 2147483647))) (eV 0) (eC (.int 3)))
  (sRet (e2 pMod (eA pInt (eK (e2 pDiv (e2 pIx (eV 0) (eC (.int 3))) (eC (.int 5))) (eN))) (eV 1)))))
def M_law_take : List D → S → Res D := runD 4 B_law_take
/-- 0 d, 1 n, 2 rest, 3 k -/
def B_law_shuffled : Es :=
  sSeq (sSet 2 (eA (pLRg true) (eK (eV 1) (eN))))
  (sRet (eA pTup (eK (eLc false (eItA pRng1 (eK (eV 1) (eN))) [3] (.nm 3) bYes (eM mPopAt (eV 2) (eK (eF 2 M_law_take (eK (eV 0) (eK (eA pLen (eK (eV 2) (eN))) (eN)))) (eN)))) (eN))))
def M_law_shuffled : List D → S → Res D := runD 4 B_law_shuffled
/-- 0 one, 1 other, 2 paper, 3 ups, 4 downs, 5 row, 6 step, 7 high, 8 low, 9 size, 10 each, 11 at -/
def B_takes_mean : Es :=
  sSeq (sExpr (eF 2 M_check_rows (eK (eV 0) (eK (eV 1) (eN)))))
  (sSeq (sIf (bB (e2 pEq (eV 2) (eT (eK (eC (.str "sum")) (eN))))) (sRet (e2 pNe (eA pSum (eK (eV 0) (eN))) (eA pSum (eK (eV 1) (eN))))) (sNil))
  (sSeq (sIf (bOr (bNot (bT (e1 (pIsi "tuple") (eV 2)))) (bB (e2 pNe (eA pLen (eK (eV 2) (eN))) (eC (.int 2))))) (sRet (eC (.bl false))) (sNil))
  (sSeq (sPar 3 4 (eK (e1 (pSoR false) (eV 0)) (eK (e1 (pSoR false) (eV 1)) (eN))))
  (sSeq (sIf (bB (e2 pEq (e2 pIx (eV 2) (eC (.int 0))) (eC (.str "top")))) (sSeq (sIf (bOr (bNot (bT (eF 1 M_is_integer (eK (e2 pIx (eV 2) (eC (.int 1))) (eN))))) (bNot (bB (eCh pLe pLt (eC (.int 1)) (e2 pIx (eV 2) (eC (.int 1))) (eA pLen (eK (eV 0) (eN))))))) (sRet (eC (.bl false))) (sNil))
  (sRet (e2 pGt (eA pSum (eK (eSl false (eV 3) oNo (oI (e2 pIx (eV 2) (eC (.int 1))))) (eN))) (eA pSum (eK (eSl false (eV 4) oNo (oI (e2 pIx (eV 2) (eC (.int 1))))) (eN)))))) (sNil))
  (sSeq (sIf (bOr (bB (e2 pNe (e2 pIx (eV 2) (eC (.int 0))) (eC (.str "steps")))) (bNot (bT (e1 (pIsi "tuple") (e2 pIx (eV 2) (eC (.int 1))))))) (sRet (eC (.bl false))) (sNil))
  (sSeq (sSet 5 (eV 4))
  (sSeq (sFor (eIt itSq (e2 pIx (eV 2) (eC (.int 1)))) (.nm 6) (sSeq (sIf (bOr (bNot (bT (e1 (pIsi "tuple") (eV 6)))) (bOr (bB (e2 pNe (eA pLen (eK (eV 6) (eN))) (eC (.int 3)))) (bT (eA pAny (eK (eLc false (eIt itSq (eV 6)) [10] (.nm 10) bYes (eNot (eF 1 M_is_integer (eK (eV 10) (eN))))) (eN)))))) (sRet (eC (.bl false))) (sNil))
  (sSeq (sAsg (.tp [.nm 7, .nm 8, .nm 9]) (eV 6))
  (sSeq (sIf (bOr (bNot (bB (eCh pLe pLt (eC (.int 0)) (eV 7) (eA pLen (eK (eV 5) (eN)))))) (bOr (bNot (bB (eCh pLe pLt (eC (.int 0)) (eV 8) (eA pLen (eK (eV 5) (eN)))))) (bNot (bB (eCh pLe pLe (eC (.int 0)) (eV 9) (e2 pSub (e2 pIx (eV 5) (eV 7)) (e2 pIx (eV 5) (eV 8)))))))) (sRet (eC (.bl false))) (sNil))
  (sSet 5 (eLc false (eItA pEnum (eK (eV 5) (eN))) [11, 10] (.tp [.nm 11, .nm 10]) bYes (eIf (bB (e2 pEq (eV 11) (eV 7))) (e2 pSub (eV 10) (eV 9)) (eIf (bB (e2 pEq (eV 11) (eV 8))) (e2 (pAdd false) (eV 10) (eV 9)) (eV 10)))))))))
  (sRet (e2 pEq (eA (pSo false) (eK (eV 5) (eN))) (eA (pSo false) (eK (eV 3) (eN))))))))))))
def M_takes_mean : List D → S → Res D := runD 12 B_takes_mean
/-- 0 script, 1 d, 2 n, 3 tables, 4 k, 5 made, 6 turn, 7 order, 8 i, 9 row, 10 size, 11 one, 12 wide, 13 paper, 14 more, 15 two, 16 wider, 17 flat, 18 table, 19 told, 20 back, 21 j, 22 x, 23 line, 24 pair -/
def B_law : Es :=
  sSeq (sSet 1 (eF 1 M_law_begin (eK (eV 0) (eN))))
  (sSeq (sSet 2 (e2 (pAdd false) (eC (.int 1)) (eF 2 M_law_take (eK (eV 1) (eK (eC (.int 5)) (eN))))))
  (sSeq (sSet 3 (eL true (eN)))
  (sSeq (sFor (eItA pRng1 (eK (eC (.int 2)) (eN))) (.nm 4) (sSeq (sSet 5 (eLc false (eItA pRng1 (eK (eV 2) (eN))) [8] (.nm 8) bYes (e2 (pMul true) (eL false (eK (eC (.int 0)) (eN))) (eV 2))))
  (sSeq (sFor (eItA pRng1 (eK (e2 (pAdd false) (eC (.int 1)) (eF 2 M_law_take (eK (eV 1) (eK (eC (.int 4)) (eN))))) (eN))) (.nm 6) (sSeq (sSet 7 (eF 2 M_law_shuffled (eK (eV 1) (eK (eV 2) (eN)))))
  (sFor (eItA pRng1 (eK (eV 2) (eN))) (.nm 8) (sStore (e2 (pAdd false) (e2 pIx (e2 pIx (eV 5) (eV 8)) (e2 pIx (eV 7) (eV 8))) (eC (.int 1))) (e2 pIx (eV 5) (eV 8)) (e2 pIx (eV 7) (eV 8))))))
  (sExpr (eM mApp (eV 3) (eK (eV 5) (eN)))))))
  (sSeq (sSet 9 (eLc false (eItA pRng1 (eK (eV 2) (eN))) [4] (.nm 4) bYes (e2 pSub (eF 2 M_law_take (eK (eV 1) (eK (eC (.int 11)) (eN)))) (eC (.int 5)))))
  (sSeq (sSet 10 (eA pSum (eK (e2 pIx (e2 pIx (eV 3) (eC (.int 0))) (eC (.int 0))) (eN))))
  (sSeq (sSet 11 (eLc false (eItA pRng1 (eK (eV 2) (eN))) [8] (.nm 8) bYes (eA pSum (eK (eLc false (eItA pRng1 (eK (eV 2) (eN))) [21] (.nm 21) bYes (e2 (pMul false) (e2 pIx (e2 pIx (e2 pIx (eV 3) (eC (.int 0))) (eV 8)) (eV 21)) (e2 pIx (eV 9) (eV 21)))) (eN)))))
  (sSeq (sSet 12 (eA pTup (eK (eLc false (eIt itSq (eV 9)) [22] (.nm 22) bYes (e2 (pMul false) (eV 10) (eV 22))) (eN))))
  (sSeq (sSet 13 (eF 2 M_mean_paper (eK (eA pTup (eK (eV 11) (eN))) (eK (eV 12) (eN)))))
  (sSeq (sIf (bOr (bB (e2 pNe (e2 pIx (eV 13) (eC (.int 0))) (eC (.str "steps")))) (bB (e2 pNsB (eF 3 M_takes_mean (eK (eA pTup (eK (eV 11) (eN))) (eK (eV 12) (eK (eV 13) (eN))))) (eC (.bl true))))) (sRet (eC (.bl false))) (sNil))
  (sSeq (sSet 14 (eA pSum (eK (e2 pIx (e2 pIx (eV 3) (eC (.int 1))) (eC (.int 0))) (eN))))
  (sSeq (sSet 15 (eA pTup (eK (eLc false (eItA pRng1 (eK (eV 2) (eN))) [8] (.nm 8) bYes (eA pSum (eK (eLc false (eItA pRng1 (eK (eV 2) (eN))) [21] (.nm 21) bYes (e2 (pMul false) (e2 pIx (e2 pIx (e2 pIx (eV 3) (eC (.int 1))) (eV 8)) (eV 21)) (e2 pIx (eV 11) (eV 21)))) (eN)))) (eN))))
  (sSeq (sSet 16 (eA pTup (eK (eLc false (eIt itSq (eV 12)) [22] (.nm 22) bYes (e2 (pMul false) (eV 14) (eV 22))) (eN))))
  (sSeq (sIf (bOr (bB (e2 pNe (e2 pIx (eF 2 M_mean_paper (eK (eV 15) (eK (eV 16) (eN)))) (eC (.int 0))) (eC (.str "steps")))) (bB (e2 pNe (e2 pIx (eF 2 M_mean_paper (eK (eV 15) (eK (eA pTup (eK (eLc false (eIt itSq (eV 11)) [22] (.nm 22) bYes (e2 (pMul false) (eV 14) (eV 22))) (eN))) (eN)))) (eC (.int 0))) (eC (.str "steps"))))) (sRet (eC (.bl false))) (sNil))
  (sSeq (sIf (bB (e2 pNe (e2 pEq (e2 pIx (eF 2 M_mean_paper (eK (eV 12) (eK (eA pTup (eK (eV 11) (eN))) (eN)))) (eC (.int 0))) (eC (.str "steps"))) (e2 pEq (eA (pSo false) (eK (eV 12) (eN))) (eA (pSo false) (eK (eV 11) (eN)))))) (sRet (eC (.bl false))) (sNil))
  (sSeq (sSet 17 (e2 (pMul false) (eT (eK (eA pSum (eK (eV 9) (eN))) (eN))) (eV 2)))
  (sSeq (sIf (bB (e2 pNe (e2 pIx (eF 2 M_mean_paper (eK (eV 17) (eK (eA pTup (eK (eLc false (eIt itSq (eV 9)) [22] (.nm 22) bYes (e2 (pMul false) (eV 2) (eV 22))) (eN))) (eN)))) (eC (.int 0))) (eC (.str "steps")))) (sRet (eC (.bl false))) (sNil))
  (sSeq (sSet 18 (eA pTup (eK (eLc false (eIt itSq (e2 pIx (eV 3) (eC (.int 0)))) [23] (.nm 23) bYes (eA pTup (eK (eV 23) (eN)))) (eN))))
  (sSeq (sSet 19 (eF 1 M_orders_paper (eK (eV 18) (eN))))
  (sSeq (sIf (bOr (bB (e2 pNe (e2 pIx (eV 19) (eC (.int 0))) (eC (.str "orders")))) (bB (e2 pNe (eA pSum (eK (eLc false (eIt itSq (e2 pIx (eV 19) (eC (.int 1)))) [24] (.nm 24) bYes (e2 pIx (eV 24) (eC (.int 1)))) (eN))) (eV 10)))) (sRet (eC (.bl false))) (sNil))
  (sSeq (sSet 20 (eLc false (eItA pRng1 (eK (eV 2) (eN))) [8] (.nm 8) bYes (eA pSum (eK (eLc false (eIt itSq (e2 pIx (eV 19) (eC (.int 1)))) [24] (.nm 24) bYes (e2 (pMul false) (e2 pIx (eV 24) (eC (.int 1))) (e2 pIx (eV 9) (e2 pIx (e2 pIx (eV 24) (eC (.int 0))) (eV 8))))) (eN)))))
  (sRet (e2 pEq (eV 20) (eV 11)))))))))))))))))))))))
def M_law : List D → S → Res D := runD 25 B_law
end K54

set_option Elab.async false
set_option linter.all false
set_option maxRecDepth 100000
set_option maxHeartbeats 4000000
/-! the defs of k54 do what their mirrors do, printed by gen.py -/
namespace K54
open PySem PySem.Spec L2 Cf
open PyProof.Rows hiding St
def topS (i : Nat) : Stmt := PySem.Challenge.pw_cornersandfaces_k54_whole_tables_and_mea.main.body.getD i (.Pass ⟨0, 0, 0, 0⟩)
/-- what the text leaves of the built-ins and numbers that it names -/
structure Blt (mg : Str → Option Value) : Prop where
  z_int : mg "int" = none
  z_list : mg "list" = none
  z_isinstance : mg "isinstance" = none
  z_bool : mg "bool" = none
  z_tuple : mg "tuple" = none
  z_len : mg "len" = none
  z_any : mg "any" = none
  z_sum : mg "sum" = none
  z_sorted : mg "sorted" = none
  z_range : mg "range" = none
  z_min : mg "min" = none
  z_enumerate : mg "enumerate" = none
  z_abs : mg "abs" = none
  c_MOST_SIZE : ∃ t, mg "MOST_SIZE" = some (.int 6 t)
  c_MOST_SUM : ∃ t, mg "MOST_SUM" = some (.int 60 t)
theorem units65 {k : Nat} {A : Around} (r : Room k A) : A.units + 65 < cLine := by have := r.un; omega
abbrev s_law_begin : Stmt := topS 16
abbrev N_law_begin : List Str := ["script", "seed", "cell"]
theorem sc_law_begin : FnScope N_law_begin ["script"] (defScope s_law_begin) := ⟨rfl, rfl, rfl, by decide +kernel, rfl, by decide +kernel, by decide +kernel⟩
abbrev s_is_integer : Stmt := topS 4
abbrev N_is_integer : List Str := ["value"]
theorem sc_is_integer : FnScope N_is_integer ["value"] (defScope s_is_integer) := ⟨rfl, rfl, rfl, by decide +kernel, rfl, by decide +kernel, by decide +kernel⟩
abbrev s_check_rows : Stmt := topS 12
abbrev N_check_rows : List Str := ["one", "other", "row", "each"]
theorem sc_check_rows : FnScope N_check_rows ["one", "other"] (defScope s_check_rows) := ⟨rfl, rfl, rfl, by decide +kernel, rfl, by decide +kernel, by decide +kernel⟩
abbrev s_mean_paper : Stmt := topS 13
abbrev N_mean_paper : List Str := ["one", "other", "ups", "downs", "size", "row", "found", "high", "low", "step", "at", "each"]
theorem sc_mean_paper : FnScope N_mean_paper ["one", "other"] (defScope s_mean_paper) := ⟨rfl, rfl, rfl, by decide +kernel, rfl, by decide +kernel, by decide +kernel⟩
abbrev s_check_table : Stmt := topS 8
abbrev N_check_table : List Str := ["table", "row", "each"]
theorem sc_check_table : FnScope N_check_table ["table"] (defScope s_check_table) := ⟨rfl, rfl, rfl, by decide +kernel, rfl, by decide +kernel, by decide +kernel⟩
abbrev s_sums_fault : Stmt := topS 9
abbrev N_sums_fault : List Str := ["table", "total", "at", "row"]
theorem sc_sums_fault : FnScope N_sums_fault ["table"] (defScope s_sums_fault) := ⟨rfl, rfl, rfl, by decide +kernel, rfl, by decide +kernel, by decide +kernel⟩
abbrev s_least_order : Stmt := topS 10
abbrev N_least_order : List Str := ["table", "rows", "row", "order", "at", "each"]
theorem sc_least_order : FnScope N_least_order ["table"] (defScope s_least_order) := ⟨rfl, rfl, rfl, by decide +kernel, rfl, by decide +kernel, by decide +kernel⟩
abbrev s_orders_paper : Stmt := topS 11
abbrev N_orders_paper : List Str := ["table", "fault", "left", "found", "order", "times", "at", "to", "row"]
theorem sc_orders_paper : FnScope N_orders_paper ["table"] (defScope s_orders_paper) := ⟨rfl, rfl, rfl, by decide +kernel, rfl, by decide +kernel, by decide +kernel⟩
abbrev s_law_take : Stmt := topS 17
abbrev N_law_take : List Str := ["d", "many", "small", "digit"]
theorem sc_law_take : FnScope N_law_take ["d", "many"] (defScope s_law_take) := ⟨rfl, rfl, rfl, by decide +kernel, rfl, by decide +kernel, by decide +kernel⟩
abbrev s_law_shuffled : Stmt := topS 18
abbrev N_law_shuffled : List Str := ["d", "n", "rest", "k"]
theorem sc_law_shuffled : FnScope N_law_shuffled ["d", "n"] (defScope s_law_shuffled) := ⟨rfl, rfl, rfl, by decide +kernel, rfl, by decide +kernel, by decide +kernel⟩
abbrev s_takes_mean : Stmt := topS 14
abbrev N_takes_mean : List Str := ["one", "other", "paper", "ups", "downs", "row", "step", "high", "low", "size", "each", "at"]
theorem sc_takes_mean : FnScope N_takes_mean ["one", "other", "paper"] (defScope s_takes_mean) := ⟨rfl, rfl, rfl, by decide +kernel, rfl, by decide +kernel, by decide +kernel⟩
abbrev s_law : Stmt := topS 19
abbrev N_law : List Str := ["script", "d", "n", "tables", "k", "made", "turn", "order", "i", "row", "size", "one", "wide", "paper", "more", "two", "wider", "flat", "table", "told", "back", "j", "x", "line", "pair"]
theorem sc_law : FnScope N_law ["script"] (defScope s_law) := ⟨rfl, rfl, rfl, by decide +kernel, rfl, by decide +kernel, by decide +kernel⟩
section
variable {P : Program} {w : World} {K : PySem.W.Frag} {mg : Str → Option Value} {base : Heap}
theorem ok_law_begin {f : Addr} {fd : FuncData} (F : Fun K "_law_begin" "_law_begin" s_law_begin f fd) (hm : mg "_law_begin" = some (.ref f)) (b : Binds K fd ["script"] []) (Bl : Blt mg)  : Cal P w K mg base "_law_begin" 1 1 M_law_begin := by
  have sc := sc_law_begin
  refine cal_of (N := N_law_begin) (g := B_law_begin) F hm b sc fun cdv A outer s H E hr => ?_
  have tk : Takes (cxOf (L2.CX P w) P w K mg base N_law_begin "_law_begin" (defScope s_law_begin) f cdv A outer s H E) (fun cls d _ H => E cls d H) := takes_of rfl rfl rfl rfl
  exact rss_cons (rs_set (i := 1) sc.nd rfl (.inl rfl) (re_int))
    (rss_cons (rs_for (passes_of rfl) rfl (ri_seq (re_var (pv 0))) (tg_nm (i := 2) sc.nd rfl (.inl rfl)) (rss_one (rs_set (i := 1) sc.nd rfl (.inl rfl) (re_op op_modN p_mod (re_op o_add p_add (re_op o_add p_add (re_op o_mul p_mul (re_var (pv 1)) (re_int)) (re_op op_modN p_mod (re_callTy call_int1 p_int (by rfl) Bl.z_int (by decide +kernel) (ra_cons (re_var (pv 2)) (ra_nil))) (re_int))) (re_int)) (re_int)))))
    (rss_one (rs_ret (re_lst (ra_cons (re_callTy call_list_of p_lst (by rfl) Bl.z_list (by decide +kernel) (ra_cons (re_var (pv 0)) (ra_nil))) (ra_cons (re_int) (ra_cons (re_int) (ra_cons (re_var (pv 1)) (ra_nil))))) ((few_cons (few_cons (few_cons (few_cons (few_nil))))).le (by decide))))))
theorem ok_is_integer {f : Addr} {fd : FuncData} (F : Fun K "is_integer" "is_integer" s_is_integer f fd) (hm : mg "is_integer" = some (.ref f)) (b : Binds K fd ["value"] []) (Bl : Blt mg)  : Cal P w K mg base "is_integer" 1 1 M_is_integer := by
  have sc := sc_is_integer
  refine cal_of (N := N_is_integer) (g := B_is_integer) F hm b sc fun cdv A outer s H E hr => ?_
  have tk : Takes (cxOf (L2.CX P w) P w K mg base N_is_integer "is_integer" (defScope s_is_integer) f cdv A outer s H E) (fun cls d _ H => E cls d H) := takes_of rfl rfl rfl rfl
  exact rss_one (rs_ret (re_and (re_isi (T := "int") (by rfl) Bl.z_isinstance (by rfl) Bl.z_int (by decide +kernel) (re_var (pv 0))) (re_one (re_not (re_isi (T := "bool") (by rfl) Bl.z_isinstance (by rfl) Bl.z_bool (by decide +kernel) (re_var (pv 0)))))))
theorem ok_check_rows {f : Addr} {fd : FuncData} (F : Fun K "check_rows" "check_rows" s_check_rows f fd) (hm : mg "check_rows" = some (.ref f)) (b : Binds K fd ["one", "other"] []) (Bl : Blt mg) (c_is_integer : Cal P w K mg base "is_integer" 1 1 M_is_integer) : Cal P w K mg base "check_rows" 2 2 M_check_rows := by
  have sc := sc_check_rows
  obtain ⟨u_MOST_SIZE, c_MOST_SIZE⟩ := Bl.c_MOST_SIZE
  refine cal_of (N := N_check_rows) (g := B_check_rows) F hm b sc fun cdv A outer s H E hr => ?_
  have tk : Takes (cxOf (L2.CX P w) P w K mg base N_check_rows "check_rows" (defScope s_check_rows) f cdv A outer s H E) (fun cls d _ H => E cls d H) := takes_of rfl rfl rfl rfl
  exact rss_cons (rs_for (passes_of rfl) rfl (ri_seq (re_tup (ra_cons (re_var (pv 0)) (ra_cons (re_var (pv 1)) (ra_nil))) ((few_cons (few_cons (few_nil))).le (by decide)))) (tg_nm (i := 2) sc.nd rfl (.inl rfl)) (rss_cons (rs_if ((rw_or (rt_not (rt_val (re_isi (T := "tuple") (by rfl) Bl.z_isinstance (by rfl) Bl.z_tuple (by decide +kernel) (re_var (pv 2))))) (rw_one (rt_not (rt_chain op_le p_le op_le p_le (re_int) (re_callB call_len p_len (by rfl) Bl.z_len PySem.boot_len (ra_cons (re_var (pv 2)) (ra_nil))) (re_gint (by rfl) c_MOST_SIZE))))).pt) (rss_one (rs_never)) (rss_nil))
    (rss_one (rs_if (rt_val (re_callB (cr_anyT rfl) p_any (by rfl) Bl.z_any PyProof.Rows.boot_any (ra_cons (re_lc (own := [("each", 3)]) (by rfl) rfl sc.nd (ri_seq (re_var (pv 2))) (blkOk_by (own := [("each", 3)]) (N := N_check_rows) (sc := defScope s_check_rows) (by decide +kernel)) (fun _ _ _ _ _ => tg_nm (i := 3) sc.nd rfl (.inl rfl)) (fun _ _ _ _ _ => pts_yes) (fun _ _ _ _ _ => re_not (re_cal c_is_integer hr (by decide) (by rfl) takes0 (ra_cons (re_var (pv 3)) (ra_nil))))) (ra_nil)))) (rss_one (rs_never)) (rss_nil)))))
    (rss_one (rs_if (rt_cmp (op_neD hr.units) p_ne (re_callB call_len p_len (by rfl) Bl.z_len PySem.boot_len (ra_cons (re_var (pv 0)) (ra_nil))) (re_callB call_len p_len (by rfl) Bl.z_len PySem.boot_len (ra_cons (re_var (pv 1)) (ra_nil))) (nomark _)) (rss_one (rs_never)) (rss_nil)))
theorem ok_mean_paper {f : Addr} {fd : FuncData} (F : Fun K "mean_paper" "mean_paper" s_mean_paper f fd) (hm : mg "mean_paper" = some (.ref f)) (b : Binds K fd ["one", "other"] []) (Bl : Blt mg) (c_check_rows : Cal P w K mg base "check_rows" 2 2 M_check_rows) : Cal P w K mg base "mean_paper" 3 2 M_mean_paper := by
  have sc := sc_mean_paper
  refine cal_of (N := N_mean_paper) (g := B_mean_paper) F hm b sc fun cdv A outer s H E hr => ?_
  have tk : Takes (cxOf (L2.CX P w) P w K mg base N_mean_paper "mean_paper" (defScope s_mean_paper) f cdv A outer s H E) (fun cls d _ H => E cls d H) := takes_of rfl rfl rfl rfl
  exact rss_cons (rs_expr (re_cal c_check_rows hr (by decide) (by rfl) tk (ra_cons (re_var (pv 0)) (ra_cons (re_var (pv 1)) (ra_nil)))))
    (rss_cons (rs_if (rt_cmp (op_neD hr.units) p_ne (re_callB (o_sum rfl) p_sum (by rfl) Bl.z_sum PyProof.Rows.boot_sum (ra_cons (re_var (pv 0)) (ra_nil))) (re_callB (o_sum rfl) p_sum (by rfl) Bl.z_sum PyProof.Rows.boot_sum (ra_cons (re_var (pv 1)) (ra_nil))) (nomark _)) (rss_one (rs_ret (re_tup (ra_cons (re_str) (ra_nil)) ((few_cons (few_nil)).le (by decide))))) (rss_nil))
    (rss_cons (rs_asg (re_tup (ra_cons (re_soR (by rfl) Bl.z_sorted (re_var (pv 0))) (ra_cons (re_soR (by rfl) Bl.z_sorted (re_var (pv 1))) (ra_nil))) ((few_cons (few_cons (few_nil))).le (by decide))) (tg_tp rfl (tgs_cons (tg_nm (i := 2) sc.nd rfl (.inr rfl)) (tgs_cons (tg_nm (i := 3) sc.nd rfl (.inl rfl)) (tgs_nil)))))
    (rss_cons (rs_for (passes_of rfl) rfl (ri_range2 (by rfl) Bl.z_range (ra_cons (re_int) (ra_cons (re_callB call_len p_len (by rfl) Bl.z_len PySem.boot_len (ra_cons (re_var (pv 0)) (ra_nil))) (ra_nil)))) (tg_nm (i := 4) sc.nd rfl (.inl rfl)) (rss_one (rs_if (rt_cmp op_gt p_gt (re_callB (o_sum rfl) p_sum (by rfl) Bl.z_sum PyProof.Rows.boot_sum (ra_cons (re_sl (re_var (pv 2)) ro_none (ro_some (re_var (pv 4)))) (ra_nil))) (re_callB (o_sum rfl) p_sum (by rfl) Bl.z_sum PyProof.Rows.boot_sum (ra_cons (re_sl (re_var (pv 3)) ro_none (ro_some (re_var (pv 4)))) (ra_nil))) (nomark _)) (rss_one (rs_ret (re_tup (ra_cons (re_str) (ra_cons (re_var (pv 4)) (ra_nil))) ((few_cons (few_cons (few_nil))).le (by decide))))) (rss_nil))))
    (rss_cons (rs_set (i := 5) sc.nd rfl (.inr rfl) (re_var (pv 3)))
    (rss_cons (rs_set (i := 6) sc.nd rfl (.inl rfl) (re_lst (ra_nil) ((few_nil).le (by decide))))
    (rss_cons (rs_while 1000000 (passes_of rfl) (rt_cmp (op_neD hr.units) p_ne (re_var (pv 5)) (re_var (pv 2)) (nomark _)) (rss_cons (rs_set (i := 7) sc.nd rfl (.inr rfl) (re_ix (re_lc (own := [("at", 10)]) (by rfl) rfl sc.nd (ri_range1 (by rfl) Bl.z_range (ra_cons (re_callB call_len p_len (by rfl) Bl.z_len PySem.boot_len (ra_cons (re_var (pv 5)) (ra_nil))) (ra_nil))) (blkOk_by (own := [("at", 10)]) (N := N_mean_paper) (sc := defScope s_mean_paper) (by decide +kernel)) (fun _ _ _ _ _ => tg_nm (i := 10) sc.nd rfl (.inl rfl)) (fun _ _ _ _ _ => pts_if (rt_cmp op_gt p_gt (re_ix (re_var (pv 5)) (re_var (pv 10)) (fun _ _ => rfl)) (re_ix (re_var (pv 2)) (re_var (pv 10)) (fun _ _ => rfl)) (nomark _))) (fun _ _ _ _ _ => re_var (pv 10))) (re_un un_neg p_neg (re_int)) (fun _ _ => rfl)))
    (rss_cons (rs_set (i := 8) sc.nd rfl (.inr rfl) (re_ix (re_lc (own := [("at", 10)]) (by rfl) rfl sc.nd (ri_range2 (by rfl) Bl.z_range (ra_cons (re_op o_add p_add (re_var (pv 7)) (re_int)) (ra_cons (re_callB call_len p_len (by rfl) Bl.z_len PySem.boot_len (ra_cons (re_var (pv 5)) (ra_nil))) (ra_nil)))) (blkOk_by (own := [("at", 10)]) (N := N_mean_paper) (sc := defScope s_mean_paper) (by decide +kernel)) (fun _ _ _ _ _ => tg_nm (i := 10) sc.nd rfl (.inl rfl)) (fun _ _ _ _ _ => pts_if (rt_cmp op_lt p_lt (re_ix (re_var (pv 5)) (re_var (pv 10)) (fun _ _ => rfl)) (re_ix (re_var (pv 2)) (re_var (pv 10)) (fun _ _ => rfl)) (nomark _))) (fun _ _ _ _ _ => re_var (pv 10))) (re_int) (fun _ _ => rfl)))
    (rss_cons (rs_set (i := 9) sc.nd rfl (.inr rfl) (re_callB (o_min rfl) p_min (by rfl) Bl.z_min PyProof.Rows.boot_min (ra_cons (re_op op_sub p_sub (re_ix (re_var (pv 5)) (re_var (pv 7)) (fun _ _ => rfl)) (re_ix (re_var (pv 2)) (re_var (pv 7)) (fun _ _ => rfl))) (ra_cons (re_op op_sub p_sub (re_ix (re_var (pv 2)) (re_var (pv 8)) (fun _ _ => rfl)) (re_ix (re_var (pv 5)) (re_var (pv 8)) (fun _ _ => rfl))) (ra_nil)))))
    (rss_cons (rs_set (i := 5) sc.nd rfl (.inr rfl) (re_lc (own := [("at", 10), ("each", 11)]) (by rfl) rfl sc.nd (ri_enum (by rfl) Bl.z_enumerate (ra_cons (re_var (pv 5)) (ra_nil))) (blkOk_by (own := [("at", 10), ("each", 11)]) (N := N_mean_paper) (sc := defScope s_mean_paper) (by decide +kernel)) (fun _ _ _ _ _ => tg_tp rfl (tgs_cons (tg_nm (i := 10) sc.nd rfl (.inl rfl)) (tgs_cons (tg_nm (i := 11) sc.nd rfl (.inl rfl)) (tgs_nil)))) (fun _ _ _ _ _ => pts_yes) (fun _ _ _ _ _ => re_if (rt_cmp (op_eqD hr.units) p_eq (re_var (pv 10)) (re_var (pv 7)) (nomark _)) (re_op op_sub p_sub (re_var (pv 11)) (re_var (pv 9))) (re_if (rt_cmp (op_eqD hr.units) p_eq (re_var (pv 10)) (re_var (pv 8)) (nomark _)) (re_op o_add p_add (re_var (pv 11)) (re_var (pv 9))) (re_var (pv 11))))))
    (rss_one (rs_expr (re_app (re_var (pv 6)) (ra_cons (re_tup (ra_cons (re_var (pv 7)) (ra_cons (re_var (pv 8)) (ra_cons (re_var (pv 9)) (ra_nil)))) ((few_cons (few_cons (few_cons (few_nil)))).le (by decide))) (ra_nil))))))))))
    (rss_one (rs_ret (re_tup (ra_cons (re_str) (ra_cons (re_callTy call_tuple_of p_tup (by rfl) Bl.z_tuple (by decide +kernel) (ra_cons (re_var (pv 6)) (ra_nil))) (ra_nil))) ((few_cons (few_cons (few_nil))).le (by decide)))))))))))
theorem ok_check_table {f : Addr} {fd : FuncData} (F : Fun K "check_table" "check_table" s_check_table f fd) (hm : mg "check_table" = some (.ref f)) (b : Binds K fd ["table"] []) (Bl : Blt mg) (c_is_integer : Cal P w K mg base "is_integer" 1 1 M_is_integer) : Cal P w K mg base "check_table" 2 1 M_check_table := by
  have sc := sc_check_table
  obtain ⟨u_MOST_SIZE, c_MOST_SIZE⟩ := Bl.c_MOST_SIZE
  obtain ⟨u_MOST_SUM, c_MOST_SUM⟩ := Bl.c_MOST_SUM
  refine cal_of (N := N_check_table) (g := B_check_table) F hm b sc fun cdv A outer s H E hr => ?_
  have tk : Takes (cxOf (L2.CX P w) P w K mg base N_check_table "check_table" (defScope s_check_table) f cdv A outer s H E) (fun cls d _ H => E cls d H) := takes_of rfl rfl rfl rfl
  exact rss_cons (rs_if ((rw_or (rt_not (rt_val (re_isi (T := "tuple") (by rfl) Bl.z_isinstance (by rfl) Bl.z_tuple (by decide +kernel) (re_var (pv 0))))) (rw_one (rt_not (rt_chain op_le p_le op_le p_le (re_int) (re_callB call_len p_len (by rfl) Bl.z_len PySem.boot_len (ra_cons (re_var (pv 0)) (ra_nil))) (re_gint (by rfl) c_MOST_SIZE))))).pt) (rss_one (rs_never)) (rss_nil))
    (rss_one (rs_for (passes_of rfl) rfl (ri_seq (re_var (pv 0))) (tg_nm (i := 1) sc.nd rfl (.inl rfl)) (rss_cons (rs_if ((rw_or (rt_not (rt_val (re_isi (T := "tuple") (by rfl) Bl.z_isinstance (by rfl) Bl.z_tuple (by decide +kernel) (re_var (pv 1))))) (rw_one (rt_cmp (op_neD hr.units) p_ne (re_callB call_len p_len (by rfl) Bl.z_len PySem.boot_len (ra_cons (re_var (pv 1)) (ra_nil))) (re_callB call_len p_len (by rfl) Bl.z_len PySem.boot_len (ra_cons (re_var (pv 0)) (ra_nil))) (nomark _)))).pt) (rss_one (rs_never)) (rss_nil))
    (rss_one (rs_if (rt_val (re_callB (cr_anyT rfl) p_any (by rfl) Bl.z_any PyProof.Rows.boot_any (ra_cons (re_lc (own := [("each", 2)]) (by rfl) rfl sc.nd (ri_seq (re_var (pv 1))) (blkOk_by (own := [("each", 2)]) (N := N_check_table) (sc := defScope s_check_table) (by decide +kernel)) (fun _ _ _ _ _ => tg_nm (i := 2) sc.nd rfl (.inl rfl)) (fun _ _ _ _ _ => pts_yes) (fun _ _ _ _ _ => re_or (re_not (re_cal c_is_integer hr (by decide) (by rfl) takes0 (ra_cons (re_var (pv 2)) (ra_nil)))) (re_one (re_not (re_chain op_le p_le op_le p_le (re_int) (re_var (pv 2)) (re_gint (by rfl) c_MOST_SUM)))))) (ra_nil)))) (rss_one (rs_never)) (rss_nil))))))
theorem ok_sums_fault {f : Addr} {fd : FuncData} (F : Fun K "sums_fault" "sums_fault" s_sums_fault f fd) (hm : mg "sums_fault" = some (.ref f)) (b : Binds K fd ["table"] []) (Bl : Blt mg)  : Cal P w K mg base "sums_fault" 1 1 M_sums_fault := by
  have sc := sc_sums_fault
  refine cal_of (N := N_sums_fault) (g := B_sums_fault) F hm b sc fun cdv A outer s H E hr => ?_
  have tk : Takes (cxOf (L2.CX P w) P w K mg base N_sums_fault "sums_fault" (defScope s_sums_fault) f cdv A outer s H E) (fun cls d _ H => E cls d H) := takes_of rfl rfl rfl rfl
  exact rss_cons (rs_set (i := 1) sc.nd rfl (.inl rfl) (re_callB (o_sum rfl) p_sum (by rfl) Bl.z_sum PyProof.Rows.boot_sum (ra_cons (re_ix (re_var (pv 0)) (re_int) (fun _ _ => rfl)) (ra_nil))))
    (rss_cons (rs_for (passes_of rfl) rfl (ri_enum (by rfl) Bl.z_enumerate (ra_cons (re_var (pv 0)) (ra_nil))) (tg_tp rfl (tgs_cons (tg_nm (i := 2) sc.nd rfl (.inr rfl)) (tgs_cons (tg_nm (i := 3) sc.nd rfl (.inl rfl)) (tgs_nil)))) (rss_one (rs_if (rt_cmp (op_neD hr.units) p_ne (re_callB (o_sum rfl) p_sum (by rfl) Bl.z_sum PyProof.Rows.boot_sum (ra_cons (re_var (pv 3)) (ra_nil))) (re_var (pv 1)) (nomark _)) (rss_one (rs_ret (re_tup (ra_cons (re_str) (ra_cons (re_var (pv 2)) (ra_nil))) ((few_cons (few_cons (few_nil))).le (by decide))))) (rss_nil))))
    (rss_cons (rs_for (passes_of rfl) rfl (ri_range1 (by rfl) Bl.z_range (ra_cons (re_callB call_len p_len (by rfl) Bl.z_len PySem.boot_len (ra_cons (re_var (pv 0)) (ra_nil))) (ra_nil))) (tg_nm (i := 2) sc.nd rfl (.inr rfl)) (rss_one (rs_if (rt_cmp (op_neD hr.units) p_ne (re_callB (o_sum rfl) p_sum (by rfl) Bl.z_sum PyProof.Rows.boot_sum (ra_cons (re_lc (own := [("row", 3)]) (by rfl) rfl sc.nd (ri_seq (re_var (pv 0))) (blkOk_by (own := [("row", 3)]) (N := N_sums_fault) (sc := defScope s_sums_fault) (by decide +kernel)) (fun _ _ _ _ _ => tg_nm (i := 3) sc.nd rfl (.inl rfl)) (fun _ _ _ _ _ => pts_yes) (fun _ _ _ _ _ => re_ix (re_var (pv 3)) (re_var (pv 2)) (fun _ _ => rfl))) (ra_nil))) (re_var (pv 1)) (nomark _)) (rss_one (rs_ret (re_tup (ra_cons (re_str) (ra_cons (re_var (pv 2)) (ra_nil))) ((few_cons (few_cons (few_nil))).le (by decide))))) (rss_nil))))
    (rss_one (rs_ret (re_non)))))
theorem ok_least_order {f : Addr} {fd : FuncData} (F : Fun K "least_order" "least_order" s_least_order f fd) (hm : mg "least_order" = some (.ref f)) (b : Binds K fd ["table"] []) (Bl : Blt mg)  : Cal P w K mg base "least_order" 1 1 M_least_order := by
  have sc := sc_least_order
  refine cal_of (N := N_least_order) (g := B_least_order) F hm b sc fun cdv A outer s H E hr => ?_
  have tk : Takes (cxOf (L2.CX P w) P w K mg base N_least_order "least_order" (defScope s_least_order) f cdv A outer s H E) (fun cls d _ H => E cls d H) := takes_of rfl rfl rfl rfl
  exact rss_cons (rs_set (i := 1) sc.nd rfl (.inl rfl) (re_lst (ra_cons (re_tup (ra_nil) ((few_nil).le (by decide))) (ra_nil)) ((few_cons (few_nil)).le (by decide))))
    (rss_cons (rs_for (passes_of rfl) rfl (ri_seq (re_var (pv 0))) (tg_nm (i := 2) sc.nd rfl (.inr rfl)) (rss_one (rs_setLc2 (i := 1) (own := [("order", 3), ("at", 4), ("each", 5)]) (vs1 := [4, 5]) (by rfl) (by rfl) rfl sc.nd rfl rfl (sw_true rfl rfl rfl (by decide +kernel)) (ri_seq (re_var (pv 1))) (blkOk_by (own := [("order", 3), ("at", 4), ("each", 5)]) (N := N_least_order) (sc := defScope s_least_order) (by decide +kernel)) (by decide) (fun _ _ _ _ _ => tg_nm (i := 3) sc.nd rfl (.inl rfl)) (fun _ _ _ _ _ => pts_yes) (fun _ _ _ _ _ => ri_enum (by rfl) Bl.z_enumerate (ra_cons (re_var (pv 2)) (ra_nil))) (fun _ _ _ _ _ => tg_tp rfl (tgs_cons (tg_nm (i := 4) sc.nd rfl (.inl rfl)) (tgs_cons (tg_nm (i := 5) sc.nd rfl (.inl rfl)) (tgs_nil)))) (fun _ _ _ _ _ => pts_if ((rw_and (rt_cmp op_gt p_gt (re_var (pv 5)) (re_int) (nomark _)) (rw_one (rt_cmp op_notIn_seq p_ni (re_var (pv 4)) (re_var (pv 3)) (by rfl)))).pt)) (fun _ _ _ _ _ => re_op o_add p_add (re_var (pv 3)) (re_tup (ra_cons (re_var (pv 4)) (ra_nil)) ((few_cons (few_nil)).le (by decide)))))))
    (rss_one (rs_ret (re_if (rt_val (re_var (pv 1))) (re_ix (re_var (pv 1)) (re_int) (fun _ _ => rfl)) (re_non)))))
theorem ok_orders_paper {f : Addr} {fd : FuncData} (F : Fun K "orders_paper" "orders_paper" s_orders_paper f fd) (hm : mg "orders_paper" = some (.ref f)) (b : Binds K fd ["table"] []) (Bl : Blt mg) (c_check_table : Cal P w K mg base "check_table" 2 1 M_check_table) (c_sums_fault : Cal P w K mg base "sums_fault" 1 1 M_sums_fault) (c_least_order : Cal P w K mg base "least_order" 1 1 M_least_order) : Cal P w K mg base "orders_paper" 3 1 M_orders_paper := by
  have sc := sc_orders_paper
  refine cal_of (N := N_orders_paper) (g := B_orders_paper) F hm b sc fun cdv A outer s H E hr => ?_
  have tk : Takes (cxOf (L2.CX P w) P w K mg base N_orders_paper "orders_paper" (defScope s_orders_paper) f cdv A outer s H E) (fun cls d _ H => E cls d H) := takes_of rfl rfl rfl rfl
  exact rss_cons (rs_expr (re_cal c_check_table hr (by decide) (by rfl) tk (ra_cons (re_var (pv 0)) (ra_nil))))
    (rss_cons (rs_set (i := 1) sc.nd rfl (.inl rfl) (re_cal c_sums_fault hr (by decide) (by rfl) tk (ra_cons (re_var (pv 0)) (ra_nil))))
    (rss_cons (rs_if (rt_cmp op_notN p_ns (re_var (pv 1)) (re_non) (nomark _)) (rss_one (rs_ret (re_var (pv 1)))) (rss_nil))
    (rss_cons (rs_set (i := 2) sc.nd rfl (.inr rfl) (re_lc (own := [("row", 8)]) (by rfl) rfl sc.nd (ri_seq (re_var (pv 0))) (blkOk_by (own := [("row", 8)]) (N := N_orders_paper) (sc := defScope s_orders_paper) (by decide +kernel)) (fun _ _ _ _ _ => tg_nm (i := 8) sc.nd rfl (.inl rfl)) (fun _ _ _ _ _ => pts_yes) (fun _ _ _ _ _ => re_callTy call_list_of p_lst (by rfl) Bl.z_list (by decide +kernel) (ra_cons (re_var (pv 8)) (ra_nil)))))
    (rss_cons (rs_set (i := 3) sc.nd rfl (.inl rfl) (re_lst (ra_nil) ((few_nil).le (by decide))))
    (rss_cons (rs_while 1000000 (passes_of rfl) (rt_cmp op_gt p_gt (re_callB (o_sum rfl) p_sum (by rfl) Bl.z_sum PyProof.Rows.boot_sum (ra_cons (re_ix (re_var (pv 2)) (re_int) (fun _ _ => rfl)) (ra_nil))) (re_int) (nomark _)) (rss_cons (rs_set (i := 4) sc.nd rfl (.inl rfl) (re_cal c_least_order hr (by decide) (by rfl) tk (ra_cons (re_var (pv 2)) (ra_nil))))
    (rss_cons (rs_set (i := 5) sc.nd rfl (.inl rfl) (re_callB (o_min rfl) p_min (by rfl) Bl.z_min PyProof.Rows.boot_min (ra_cons (re_lc (own := [("at", 6), ("to", 7)]) (by rfl) rfl sc.nd (ri_enum (by rfl) Bl.z_enumerate (ra_cons (re_var (pv 4)) (ra_nil))) (blkOk_by (own := [("at", 6), ("to", 7)]) (N := N_orders_paper) (sc := defScope s_orders_paper) (by decide +kernel)) (fun _ _ _ _ _ => tg_tp rfl (tgs_cons (tg_nm (i := 6) sc.nd rfl (.inl rfl)) (tgs_cons (tg_nm (i := 7) sc.nd rfl (.inl rfl)) (tgs_nil)))) (fun _ _ _ _ _ => pts_yes) (fun _ _ _ _ _ => re_ix (re_ix (re_var (pv 2)) (re_var (pv 6)) (fun _ _ => rfl)) (re_var (pv 7)) (fun _ _ => rfl))) (ra_nil))))
    (rss_cons (rs_for (passes_of rfl) rfl (ri_enum (by rfl) Bl.z_enumerate (ra_cons (re_var (pv 4)) (ra_nil))) (tg_tp rfl (tgs_cons (tg_nm (i := 6) sc.nd rfl (.inl rfl)) (tgs_cons (tg_nm (i := 7) sc.nd rfl (.inl rfl)) (tgs_nil)))) (rss_one (rs_augIx (re_ix (re_var (pv 2)) (re_var (pv 6)) (fun _ _ => rfl)) (re_var (pv 7)) (re_var (pv 5)) pip_sub p_sub)))
    (rss_one (rs_expr (re_app (re_var (pv 3)) (ra_cons (re_tup (ra_cons (re_var (pv 4)) (ra_cons (re_var (pv 5)) (ra_nil))) ((few_cons (few_cons (few_nil))).le (by decide))) (ra_nil)))))))))
    (rss_one (rs_ret (re_tup (ra_cons (re_str) (ra_cons (re_callTy call_tuple_of p_tup (by rfl) Bl.z_tuple (by decide +kernel) (ra_cons (re_var (pv 3)) (ra_nil))) (ra_nil))) ((few_cons (few_cons (few_nil))).le (by decide))))))))))
theorem ok_law_take {f : Addr} {fd : FuncData} (F : Fun K "_law_take" "_law_take" s_law_take f fd) (hm : mg "_law_take" = some (.ref f)) (b : Binds K fd ["d", "many"] []) (Bl : Blt mg)  : Cal P w K mg base "_law_take" 1 2 M_law_take := by
  have sc := sc_law_take
  refine cal_of (N := N_law_take) (g := B_law_take) F hm b sc fun cdv A outer s H E hr => ?_
  have tk : Takes (cxOf (L2.CX P w) P w K mg base N_law_take "_law_take" (defScope s_law_take) f cdv A outer s H E) (fun cls d _ H => E cls d H) := takes_of rfl rfl rfl rfl
  exact rss_cons (rs_if ((rw_and (rt_cmp (op_eqD hr.units) p_eq (re_ix (re_var (pv 0)) (re_int) (fun _ _ => rfl)) (re_int) (nomark _)) (rw_one (rt_cmp op_lt p_lt (re_ix (re_var (pv 0)) (re_int) (fun _ _ => rfl)) (re_callB call_len p_len (by rfl) Bl.z_len PySem.boot_len (ra_cons (re_ix (re_var (pv 0)) (re_int) (fun _ _ => rfl)) (ra_nil))) (nomark _)))).pt) (rss_cons (rs_store (re_callB call_abs p_abs (by rfl) Bl.z_abs (by decide +kernel) (ra_cons (re_callTy call_int1 p_int (by rfl) Bl.z_int (by decide +kernel) (ra_cons (re_ix (re_ix (re_var (pv 0)) (re_int) (fun _ _ => rfl)) (re_ix (re_var (pv 0)) (re_int) (fun _ _ => rfl)) (fun _ _ => rfl)) (ra_nil))) (ra_nil))) (re_var (pv 0)) (re_int))
    (rss_cons (rs_store (re_op o_add p_add (re_ix (re_var (pv 0)) (re_int) (fun _ _ => rfl)) (re_int)) (re_var (pv 0)) (re_int))
    (rss_one (rs_if (rt_cmp op_lt p_lt (re_ix (re_var (pv 0)) (re_int) (fun _ _ => rfl)) (re_op op_pow p_pow (re_int) (re_int)) (nomark _)) (rss_cons (rs_set (i := 2) sc.nd rfl (.inl rfl) (re_callTy call_int1 p_int (by rfl) Bl.z_int (by decide +kernel) (ra_cons (re_ix (re_var (pv 0)) (re_int) (fun _ _ => rfl)) (ra_nil))))
    (rss_cons (rs_store (re_int) (re_var (pv 0)) (re_int))
    (rss_one (rs_ret (re_op op_modN p_mod (re_var (pv 2)) (re_var (pv 1))))))) (rss_nil))))) (rss_nil))
    (rss_cons (rs_if (rt_cmp op_gt p_gt (re_ix (re_var (pv 0)) (re_int) (fun _ _ => rfl)) (re_int) (nomark _)) (rss_cons (rs_set (i := 3) sc.nd rfl (.inl rfl) (re_op op_modN p_mod (re_callTy call_int1 p_int (by rfl) Bl.z_int (by decide +kernel) (ra_cons (re_ix (re_var (pv 0)) (re_int) (fun _ _ => rfl)) (ra_nil))) (re_var (pv 1))))
    (rss_cons (rs_store (re_op o_div p_div (re_callTy call_int1 p_int (by rfl) Bl.z_int (by decide +kernel) (ra_cons (re_ix (re_var (pv 0)) (re_int) (fun _ _ => rfl)) (ra_nil))) (re_var (pv 1))) (re_var (pv 0)) (re_int))
    (rss_one (rs_ret (re_var (pv 3)))))) (rss_nil))
    (rss_cons (rs_store (re_op op_modN p_mod (re_callTy call_int1 p_int (by rfl) Bl.z_int (by decide +kernel) (ra_cons (re_op o_add p_add (re_op o_mul p_mul (re_ix (re_var (pv 0)) (re_int) (fun _ _ => rfl)) (re_int)) (re_int)) (ra_nil))) (re_int)) (re_var (pv 0)) (re_int))
    (rss_one (rs_ret (re_op op_modN p_mod (re_callTy call_int1 p_int (by rfl) Bl.z_int (by decide +kernel) (ra_cons (re_op o_div p_div (re_ix (re_var (pv 0)) (re_int) (fun _ _ => rfl)) (re_int)) (ra_nil))) (re_var (pv 1)))))))
theorem ok_law_shuffled {f : Addr} {fd : FuncData} (F : Fun K "_law_shuffled" "_law_shuffled" s_law_shuffled f fd) (hm : mg "_law_shuffled" = some (.ref f)) (b : Binds K fd ["d", "n"] []) (Bl : Blt mg) (c_law_take : Cal P w K mg base "_law_take" 1 2 M_law_take) : Cal P w K mg base "_law_shuffled" 2 2 M_law_shuffled := by
  have sc := sc_law_shuffled
  refine cal_of (N := N_law_shuffled) (g := B_law_shuffled) F hm b sc fun cdv A outer s H E hr => ?_
  have tk : Takes (cxOf (L2.CX P w) P w K mg base N_law_shuffled "_law_shuffled" (defScope s_law_shuffled) f cdv A outer s H E) (fun cls d _ H => E cls d H) := takes_of rfl rfl rfl rfl
  exact rss_cons (rs_set (i := 2) sc.nd rfl (.inr rfl) (re_listRg1 rfl (by rfl) Bl.z_list (by rfl) Bl.z_range (re_var (pv 1))))
    (rss_one (rs_ret (re_callTy call_tuple_of p_tup (by rfl) Bl.z_tuple (by decide +kernel) (ra_cons (re_lc (own := [("k", 3)]) (by rfl) rfl sc.nd (ri_range1 (by rfl) Bl.z_range (ra_cons (re_var (pv 1)) (ra_nil))) (blkOk_by (own := [("k", 3)]) (N := N_law_shuffled) (sc := defScope s_law_shuffled) (by decide +kernel)) (fun _ _ _ _ _ => tg_nm (i := 3) sc.nd rfl (.inl rfl)) (fun _ _ _ _ _ => pts_yes) (fun _ _ _ _ _ => re_popAt (re_var (pv 2)) (ra_cons (re_cal c_law_take hr (by decide) (by rfl) takes0 (ra_cons (re_var (pv 0)) (ra_cons (re_callB call_len p_len (by rfl) Bl.z_len PySem.boot_len (ra_cons (re_var (pv 2)) (ra_nil))) (ra_nil)))) (ra_nil)))) (ra_nil)))))
theorem ok_takes_mean {f : Addr} {fd : FuncData} (F : Fun K "takes_mean" "takes_mean" s_takes_mean f fd) (hm : mg "takes_mean" = some (.ref f)) (b : Binds K fd ["one", "other", "paper"] []) (Bl : Blt mg) (c_check_rows : Cal P w K mg base "check_rows" 2 2 M_check_rows) (c_is_integer : Cal P w K mg base "is_integer" 1 1 M_is_integer) : Cal P w K mg base "takes_mean" 3 3 M_takes_mean := by
  have sc := sc_takes_mean
  refine cal_of (N := N_takes_mean) (g := B_takes_mean) F hm b sc fun cdv A outer s H E hr => ?_
  have tk : Takes (cxOf (L2.CX P w) P w K mg base N_takes_mean "takes_mean" (defScope s_takes_mean) f cdv A outer s H E) (fun cls d _ H => E cls d H) := takes_of rfl rfl rfl rfl
  exact rss_cons (rs_expr (re_cal c_check_rows hr (by decide) (by rfl) tk (ra_cons (re_var (pv 0)) (ra_cons (re_var (pv 1)) (ra_nil)))))
    (rss_cons (rs_if (rt_cmp (op_eqD hr.units) p_eq (re_var (pv 2)) (re_tup (ra_cons (re_str) (ra_nil)) ((few_cons (few_nil)).le (by decide))) (nomark _)) (rss_one (rs_ret (re_cmp (op_neD hr.units) p_ne (re_callB (o_sum rfl) p_sum (by rfl) Bl.z_sum PyProof.Rows.boot_sum (ra_cons (re_var (pv 0)) (ra_nil))) (re_callB (o_sum rfl) p_sum (by rfl) Bl.z_sum PyProof.Rows.boot_sum (ra_cons (re_var (pv 1)) (ra_nil))) (nomark _)))) (rss_nil))
    (rss_cons (rs_if ((rw_or (rt_not (rt_val (re_isi (T := "tuple") (by rfl) Bl.z_isinstance (by rfl) Bl.z_tuple (by decide +kernel) (re_var (pv 2))))) (rw_one (rt_cmp (op_neD hr.units) p_ne (re_callB call_len p_len (by rfl) Bl.z_len PySem.boot_len (ra_cons (re_var (pv 2)) (ra_nil))) (re_int) (nomark _)))).pt) (rss_one (rs_ret (re_bl))) (rss_nil))
    (rss_cons (rs_par (k := 3) (j := 4) rfl sc.nd rfl rfl (by decide) rfl rfl (ra_cons (re_soR (by rfl) Bl.z_sorted (re_var (pv 0))) (ra_cons (re_soR (by rfl) Bl.z_sorted (re_var (pv 1))) (ra_nil))) (by rfl))
    (rss_cons (rs_if (rt_cmp (op_eqD hr.units) p_eq (re_ix (re_var (pv 2)) (re_int) (fun _ _ => rfl)) (re_str) (nomark _)) (rss_cons (rs_if ((rw_or (rt_not (rt_val (re_cal c_is_integer hr (by decide) (by rfl) tk (ra_cons (re_ix (re_var (pv 2)) (re_int) (fun _ _ => rfl)) (ra_nil))))) (rw_one (rt_not (rt_chain op_le p_le op_lt p_lt (re_int) (re_ix (re_var (pv 2)) (re_int) (fun _ _ => rfl)) (re_callB call_len p_len (by rfl) Bl.z_len PySem.boot_len (ra_cons (re_var (pv 0)) (ra_nil))))))).pt) (rss_one (rs_ret (re_bl))) (rss_nil))
    (rss_one (rs_ret (re_cmp op_gt p_gt (re_callB (o_sum rfl) p_sum (by rfl) Bl.z_sum PyProof.Rows.boot_sum (ra_cons (re_sl (re_var (pv 3)) ro_none (ro_some (re_ix (re_var (pv 2)) (re_int) (fun _ _ => rfl)))) (ra_nil))) (re_callB (o_sum rfl) p_sum (by rfl) Bl.z_sum PyProof.Rows.boot_sum (ra_cons (re_sl (re_var (pv 4)) ro_none (ro_some (re_ix (re_var (pv 2)) (re_int) (fun _ _ => rfl)))) (ra_nil))) (nomark _))))) (rss_nil))
    (rss_cons (rs_if ((rw_or (rt_cmp (op_neD hr.units) p_ne (re_ix (re_var (pv 2)) (re_int) (fun _ _ => rfl)) (re_str) (nomark _)) (rw_one (rt_not (rt_val (re_isi (T := "tuple") (by rfl) Bl.z_isinstance (by rfl) Bl.z_tuple (by decide +kernel) (re_ix (re_var (pv 2)) (re_int) (fun _ _ => rfl))))))).pt) (rss_one (rs_ret (re_bl))) (rss_nil))
    (rss_cons (rs_set (i := 5) sc.nd rfl (.inl rfl) (re_var (pv 4)))
    (rss_cons (rs_for (passes_of rfl) rfl (ri_seq (re_ix (re_var (pv 2)) (re_int) (fun _ _ => rfl))) (tg_nm (i := 6) sc.nd rfl (.inl rfl)) (rss_cons (rs_if ((rw_or (rt_not (rt_val (re_isi (T := "tuple") (by rfl) Bl.z_isinstance (by rfl) Bl.z_tuple (by decide +kernel) (re_var (pv 6))))) (rw_or (rt_cmp (op_neD hr.units) p_ne (re_callB call_len p_len (by rfl) Bl.z_len PySem.boot_len (ra_cons (re_var (pv 6)) (ra_nil))) (re_int) (nomark _)) (rw_one (rt_val (re_callB (cr_anyT rfl) p_any (by rfl) Bl.z_any PyProof.Rows.boot_any (ra_cons (re_lc (own := [("each", 10)]) (by rfl) rfl sc.nd (ri_seq (re_var (pv 6))) (blkOk_by (own := [("each", 10)]) (N := N_takes_mean) (sc := defScope s_takes_mean) (by decide +kernel)) (fun _ _ _ _ _ => tg_nm (i := 10) sc.nd rfl (.inl rfl)) (fun _ _ _ _ _ => pts_yes) (fun _ _ _ _ _ => re_not (re_cal c_is_integer hr (by decide) (by rfl) takes0 (ra_cons (re_var (pv 10)) (ra_nil))))) (ra_nil))))))).pt) (rss_one (rs_ret (re_bl))) (rss_nil))
    (rss_cons (rs_asg (re_var (pv 6)) (tg_tp rfl (tgs_cons (tg_nm (i := 7) sc.nd rfl (.inr rfl)) (tgs_cons (tg_nm (i := 8) sc.nd rfl (.inr rfl)) (tgs_cons (tg_nm (i := 9) sc.nd rfl (.inr rfl)) (tgs_nil))))))
    (rss_cons (rs_if ((rw_or (rt_not (rt_chain op_le p_le op_lt p_lt (re_int) (re_var (pv 7)) (re_callB call_len p_len (by rfl) Bl.z_len PySem.boot_len (ra_cons (re_var (pv 5)) (ra_nil))))) (rw_or (rt_not (rt_chain op_le p_le op_lt p_lt (re_int) (re_var (pv 8)) (re_callB call_len p_len (by rfl) Bl.z_len PySem.boot_len (ra_cons (re_var (pv 5)) (ra_nil))))) (rw_one (rt_not (rt_chain op_le p_le op_le p_le (re_int) (re_var (pv 9)) (re_op op_sub p_sub (re_ix (re_var (pv 5)) (re_var (pv 7)) (fun _ _ => rfl)) (re_ix (re_var (pv 5)) (re_var (pv 8)) (fun _ _ => rfl)))))))).pt) (rss_one (rs_ret (re_bl))) (rss_nil))
    (rss_one (rs_setLc (i := 5) (own := [("at", 11), ("each", 10)]) (by rfl) rfl sc.nd rfl rfl (sw_true rfl rfl rfl (by decide +kernel)) (ri_enum (by rfl) Bl.z_enumerate (ra_cons (re_var (pv 5)) (ra_nil))) (blkOk_by (own := [("at", 11), ("each", 10)]) (N := N_takes_mean) (sc := defScope s_takes_mean) (by decide +kernel)) (fun _ _ _ _ _ => tg_tp rfl (tgs_cons (tg_nm (i := 11) sc.nd rfl (.inl rfl)) (tgs_cons (tg_nm (i := 10) sc.nd rfl (.inl rfl)) (tgs_nil)))) (fun _ _ _ _ _ => pts_yes) (fun _ _ _ _ _ => re_if (rt_cmp (op_eqD hr.units) p_eq (re_var (pv 11)) (re_var (pv 7)) (nomark _)) (re_op op_sub p_sub (re_var (pv 10)) (re_var (pv 9))) (re_if (rt_cmp (op_eqD hr.units) p_eq (re_var (pv 11)) (re_var (pv 8)) (nomark _)) (re_op o_add p_add (re_var (pv 10)) (re_var (pv 9))) (re_var (pv 10))))))))))
    (rss_one (rs_ret (re_cmp (op_eqD hr.units) p_eq (re_callB cr_sortA p_so (by rfl) Bl.z_sorted PyProof.Rows.boot_sorted (ra_cons (re_var (pv 5)) (ra_nil))) (re_callB cr_sortA p_so (by rfl) Bl.z_sorted PyProof.Rows.boot_sorted (ra_cons (re_var (pv 3)) (ra_nil))) (nomark _)))))))))))
theorem fn_law {f : Addr} {fd : FuncData} (F : Fun K "law" "law" s_law f fd) (Bl : Blt mg) (c_law_begin : Cal P w K mg base "_law_begin" 1 1 M_law_begin) (c_mean_paper : Cal P w K mg base "mean_paper" 3 2 M_mean_paper) (c_orders_paper : Cal P w K mg base "orders_paper" 3 1 M_orders_paper) (c_law_take : Cal P w K mg base "_law_take" 1 2 M_law_take) (c_law_shuffled : Cal P w K mg base "_law_shuffled" 2 2 M_law_shuffled) (c_takes_mean : Cal P w K mg base "takes_mean" 3 3 M_takes_mean) : FnOk P w K mg base (L2.CX P w) 4 f fd ["script"] (spOf K mg M_law 1) := by
  have sc := sc_law
  refine def_ok (N := N_law) (g := B_law) F sc fun cdv A outer s H E hr => ?_
  have tk : Takes (cxOf (L2.CX P w) P w K mg base N_law "law" (defScope s_law) f cdv A outer s H E) (fun cls d _ H => E cls d H) := takes_of rfl rfl rfl rfl
  exact rss_cons (rs_set (i := 1) sc.nd rfl (.inr rfl) (re_cal c_law_begin hr (by decide) (by rfl) tk (ra_cons (re_var (pv 0)) (ra_nil))))
    (rss_cons (rs_set (i := 2) sc.nd rfl (.inr rfl) (re_op o_add p_add (re_int) (re_cal c_law_take hr (by decide) (by rfl) tk (ra_cons (re_var (pv 1)) (ra_cons (re_int) (ra_nil))))))
    (rss_cons (rs_set (i := 3) sc.nd rfl (.inr rfl) (re_lst (ra_nil) ((few_nil).le (by decide))))
    (rss_cons (rs_for (passes_of rfl) rfl (ri_range1 (by rfl) Bl.z_range (ra_cons (re_int) (ra_nil))) (tg_nm (i := 4) sc.nd rfl (.inl rfl)) (rss_cons (rs_setLc (i := 5) (own := [("i", 8)]) (by rfl) rfl sc.nd rfl rfl (sw_true rfl rfl rfl (by decide +kernel)) (ri_range1 (by rfl) Bl.z_range (ra_cons (re_var (pv 2)) (ra_nil))) (blkOk_by (own := [("i", 8)]) (N := N_law) (sc := defScope s_law) (by decide +kernel)) (fun _ _ _ _ _ => tg_nm (i := 8) sc.nd rfl (.inl rfl)) (fun _ _ _ _ _ => pts_yes) (fun _ _ _ _ _ => re_op o_mul p_mul (re_lst (ra_cons (re_int) (ra_nil)) ((few_cons (few_nil)).le (by decide))) (re_var (pv 2))))
    (rss_cons (rs_for (passes_of rfl) rfl (ri_range1 (by rfl) Bl.z_range (ra_cons (re_op o_add p_add (re_int) (re_cal c_law_take hr (by decide) (by rfl) tk (ra_cons (re_var (pv 1)) (ra_cons (re_int) (ra_nil))))) (ra_nil))) (tg_nm (i := 6) sc.nd rfl (.inl rfl)) (rss_cons (rs_set (i := 7) sc.nd rfl (.inl rfl) (re_cal c_law_shuffled hr (by decide) (by rfl) tk (ra_cons (re_var (pv 1)) (ra_cons (re_var (pv 2)) (ra_nil)))))
    (rss_one (rs_for (passes_of rfl) rfl (ri_range1 (by rfl) Bl.z_range (ra_cons (re_var (pv 2)) (ra_nil))) (tg_nm (i := 8) sc.nd rfl (.inl rfl)) (rss_one (rs_store (re_op o_add p_add (re_ix (re_ix (re_var (pv 5)) (re_var (pv 8)) (fun _ _ => rfl)) (re_ix (re_var (pv 7)) (re_var (pv 8)) (fun _ _ => rfl)) (fun _ _ => rfl)) (re_int)) (re_ix (re_var (pv 5)) (re_var (pv 8)) (fun _ _ => rfl)) (re_ix (re_var (pv 7)) (re_var (pv 8)) (fun _ _ => rfl))))))))
    (rss_one (rs_expr (re_app (re_var (pv 3)) (ra_cons (re_var (pv 5)) (ra_nil))))))))
    (rss_cons (rs_set (i := 9) sc.nd rfl (.inr rfl) (re_lc (own := [("k", 4)]) (by rfl) rfl sc.nd (ri_range1 (by rfl) Bl.z_range (ra_cons (re_var (pv 2)) (ra_nil))) (blkOk_by (own := [("k", 4)]) (N := N_law) (sc := defScope s_law) (by decide +kernel)) (fun _ _ _ _ _ => tg_nm (i := 4) sc.nd rfl (.inl rfl)) (fun _ _ _ _ _ => pts_yes) (fun _ _ _ _ _ => re_op op_sub p_sub (re_cal c_law_take hr (by decide) (by rfl) takes0 (ra_cons (re_var (pv 1)) (ra_cons (re_int) (ra_nil)))) (re_int))))
    (rss_cons (rs_set (i := 10) sc.nd rfl (.inr rfl) (re_callB (o_sum rfl) p_sum (by rfl) Bl.z_sum PyProof.Rows.boot_sum (ra_cons (re_ix (re_ix (re_var (pv 3)) (re_int) (fun _ _ => rfl)) (re_int) (fun _ _ => rfl)) (ra_nil))))
    (rss_cons (rs_set (i := 11) sc.nd rfl (.inr rfl) (re_lc (own := [("i", 8)]) (by rfl) rfl sc.nd (ri_range1 (by rfl) Bl.z_range (ra_cons (re_var (pv 2)) (ra_nil))) (blkOk_by (own := [("i", 8)]) (N := N_law) (sc := defScope s_law) (by decide +kernel)) (fun _ _ _ _ _ => tg_nm (i := 8) sc.nd rfl (.inr rfl)) (fun _ _ _ _ _ => pts_yes) (fun _ _ _ _ _ => re_callB (o_sum rfl) p_sum (by rfl) Bl.z_sum PyProof.Rows.boot_sum (ra_cons (re_lc (own := [("j", 21)]) (by rfl) rfl sc.nd (ri_range1 (by rfl) Bl.z_range (ra_cons (re_var (pv 2)) (ra_nil))) (blkOk_by (own := [("j", 21)]) (N := N_law) (by kernel_rfl)) (fun _ _ _ _ _ => tg_nm (i := 21) sc.nd rfl (.inl rfl)) (fun _ _ _ _ _ => pts_yes) (fun _ _ _ _ _ => re_op o_mul p_mul (re_ix (re_ix (re_ix (re_var (pv 3)) (re_int) (fun _ _ => rfl)) (re_var (pv 8)) (fun _ _ => rfl)) (re_var (pv 21)) (fun _ _ => rfl)) (re_ix (re_var (pv 9)) (re_var (pv 21)) (fun _ _ => rfl)))) (ra_nil)))))
    (rss_cons (rs_set (i := 12) sc.nd rfl (.inl rfl) (re_callTy call_tuple_of p_tup (by rfl) Bl.z_tuple (by decide +kernel) (ra_cons (re_lc (own := [("x", 22)]) (by rfl) rfl sc.nd (ri_seq (re_var (pv 9))) (blkOk_by (own := [("x", 22)]) (N := N_law) (sc := defScope s_law) (by decide +kernel)) (fun _ _ _ _ _ => tg_nm (i := 22) sc.nd rfl (.inl rfl)) (fun _ _ _ _ _ => pts_yes) (fun _ _ _ _ _ => re_op o_mul p_mul (re_var (pv 10)) (re_var (pv 22)))) (ra_nil))))
    (rss_cons (rs_set (i := 13) sc.nd rfl (.inl rfl) (re_cal c_mean_paper hr (by decide) (by rfl) tk (ra_cons (re_callTy call_tuple_of p_tup (by rfl) Bl.z_tuple (by decide +kernel) (ra_cons (re_var (pv 11)) (ra_nil))) (ra_cons (re_var (pv 12)) (ra_nil)))))
    (rss_cons (rs_if ((rw_or (rt_cmp (op_neD hr.units) p_ne (re_ix (re_var (pv 13)) (re_int) (fun _ _ => rfl)) (re_str) (nomark _)) (rw_one (rt_cmp op_notBl p_nsB (re_cal c_takes_mean hr (by decide) (by rfl) tk (ra_cons (re_callTy call_tuple_of p_tup (by rfl) Bl.z_tuple (by decide +kernel) (ra_cons (re_var (pv 11)) (ra_nil))) (ra_cons (re_var (pv 12)) (ra_cons (re_var (pv 13)) (ra_nil))))) (re_bl) (nomark _)))).pt) (rss_one (rs_ret (re_bl))) (rss_nil))
    (rss_cons (rs_set (i := 14) sc.nd rfl (.inr rfl) (re_callB (o_sum rfl) p_sum (by rfl) Bl.z_sum PyProof.Rows.boot_sum (ra_cons (re_ix (re_ix (re_var (pv 3)) (re_int) (fun _ _ => rfl)) (re_int) (fun _ _ => rfl)) (ra_nil))))
    (rss_cons (rs_set (i := 15) sc.nd rfl (.inl rfl) (re_callTy call_tuple_of p_tup (by rfl) Bl.z_tuple (by decide +kernel) (ra_cons (re_lc (own := [("i", 8)]) (by rfl) rfl sc.nd (ri_range1 (by rfl) Bl.z_range (ra_cons (re_var (pv 2)) (ra_nil))) (blkOk_by (own := [("i", 8)]) (N := N_law) (sc := defScope s_law) (by decide +kernel)) (fun _ _ _ _ _ => tg_nm (i := 8) sc.nd rfl (.inr rfl)) (fun _ _ _ _ _ => pts_yes) (fun _ _ _ _ _ => re_callB (o_sum rfl) p_sum (by rfl) Bl.z_sum PyProof.Rows.boot_sum (ra_cons (re_lc (own := [("j", 21)]) (by rfl) rfl sc.nd (ri_range1 (by rfl) Bl.z_range (ra_cons (re_var (pv 2)) (ra_nil))) (blkOk_by (own := [("j", 21)]) (N := N_law) (by kernel_rfl)) (fun _ _ _ _ _ => tg_nm (i := 21) sc.nd rfl (.inl rfl)) (fun _ _ _ _ _ => pts_yes) (fun _ _ _ _ _ => re_op o_mul p_mul (re_ix (re_ix (re_ix (re_var (pv 3)) (re_int) (fun _ _ => rfl)) (re_var (pv 8)) (fun _ _ => rfl)) (re_var (pv 21)) (fun _ _ => rfl)) (re_ix (re_var (pv 11)) (re_var (pv 21)) (fun _ _ => rfl)))) (ra_nil)))) (ra_nil))))
    (rss_cons (rs_set (i := 16) sc.nd rfl (.inl rfl) (re_callTy call_tuple_of p_tup (by rfl) Bl.z_tuple (by decide +kernel) (ra_cons (re_lc (own := [("x", 22)]) (by rfl) rfl sc.nd (ri_seq (re_var (pv 12))) (blkOk_by (own := [("x", 22)]) (N := N_law) (sc := defScope s_law) (by decide +kernel)) (fun _ _ _ _ _ => tg_nm (i := 22) sc.nd rfl (.inl rfl)) (fun _ _ _ _ _ => pts_yes) (fun _ _ _ _ _ => re_op o_mul p_mul (re_var (pv 14)) (re_var (pv 22)))) (ra_nil))))
    (rss_cons (rs_if ((rw_or (rt_cmp (op_neD hr.units) p_ne (re_ix (re_cal c_mean_paper hr (by decide) (by rfl) tk (ra_cons (re_var (pv 15)) (ra_cons (re_var (pv 16)) (ra_nil)))) (re_int) (fun _ _ => rfl)) (re_str) (nomark _)) (rw_one (rt_cmp (op_neD hr.units) p_ne (re_ix (re_cal c_mean_paper hr (by decide) (by rfl) tk (ra_cons (re_var (pv 15)) (ra_cons (re_callTy call_tuple_of p_tup (by rfl) Bl.z_tuple (by decide +kernel) (ra_cons (re_lc (own := [("x", 22)]) (by rfl) rfl sc.nd (ri_seq (re_var (pv 11))) (blkOk_by (own := [("x", 22)]) (N := N_law) (sc := defScope s_law) (by decide +kernel)) (fun _ _ _ _ _ => tg_nm (i := 22) sc.nd rfl (.inl rfl)) (fun _ _ _ _ _ => pts_yes) (fun _ _ _ _ _ => re_op o_mul p_mul (re_var (pv 14)) (re_var (pv 22)))) (ra_nil))) (ra_nil)))) (re_int) (fun _ _ => rfl)) (re_str) (nomark _)))).pt) (rss_one (rs_ret (re_bl))) (rss_nil))
    (rss_cons (rs_if (rt_cmp (op_neD hr.units) p_ne (re_cmp (op_eqD hr.units) p_eq (re_ix (re_cal c_mean_paper hr (by decide) (by rfl) tk (ra_cons (re_var (pv 12)) (ra_cons (re_callTy call_tuple_of p_tup (by rfl) Bl.z_tuple (by decide +kernel) (ra_cons (re_var (pv 11)) (ra_nil))) (ra_nil)))) (re_int) (fun _ _ => rfl)) (re_str) (nomark _)) (re_cmp (op_eqD hr.units) p_eq (re_callB cr_sortA p_so (by rfl) Bl.z_sorted PyProof.Rows.boot_sorted (ra_cons (re_var (pv 12)) (ra_nil))) (re_callB cr_sortA p_so (by rfl) Bl.z_sorted PyProof.Rows.boot_sorted (ra_cons (re_var (pv 11)) (ra_nil))) (nomark _)) (nomark _)) (rss_one (rs_ret (re_bl))) (rss_nil))
    (rss_cons (rs_set (i := 17) sc.nd rfl (.inl rfl) (re_op o_mul p_mul (re_tup (ra_cons (re_callB (o_sum rfl) p_sum (by rfl) Bl.z_sum PyProof.Rows.boot_sum (ra_cons (re_var (pv 9)) (ra_nil))) (ra_nil)) ((few_cons (few_nil)).le (by decide))) (re_var (pv 2))))
    (rss_cons (rs_if (rt_cmp (op_neD hr.units) p_ne (re_ix (re_cal c_mean_paper hr (by decide) (by rfl) tk (ra_cons (re_var (pv 17)) (ra_cons (re_callTy call_tuple_of p_tup (by rfl) Bl.z_tuple (by decide +kernel) (ra_cons (re_lc (own := [("x", 22)]) (by rfl) rfl sc.nd (ri_seq (re_var (pv 9))) (blkOk_by (own := [("x", 22)]) (N := N_law) (sc := defScope s_law) (by decide +kernel)) (fun _ _ _ _ _ => tg_nm (i := 22) sc.nd rfl (.inl rfl)) (fun _ _ _ _ _ => pts_yes) (fun _ _ _ _ _ => re_op o_mul p_mul (re_var (pv 2)) (re_var (pv 22)))) (ra_nil))) (ra_nil)))) (re_int) (fun _ _ => rfl)) (re_str) (nomark _)) (rss_one (rs_ret (re_bl))) (rss_nil))
    (rss_cons (rs_set (i := 18) sc.nd rfl (.inl rfl) (re_callTy call_tuple_of p_tup (by rfl) Bl.z_tuple (by decide +kernel) (ra_cons (re_lc (own := [("line", 23)]) (by rfl) rfl sc.nd (ri_seq (re_ix (re_var (pv 3)) (re_int) (fun _ _ => rfl))) (blkOk_by (own := [("line", 23)]) (N := N_law) (sc := defScope s_law) (by decide +kernel)) (fun _ _ _ _ _ => tg_nm (i := 23) sc.nd rfl (.inl rfl)) (fun _ _ _ _ _ => pts_yes) (fun _ _ _ _ _ => re_callTy call_tuple_of p_tup (by rfl) Bl.z_tuple (by decide +kernel) (ra_cons (re_var (pv 23)) (ra_nil)))) (ra_nil))))
    (rss_cons (rs_set (i := 19) sc.nd rfl (.inr rfl) (re_cal c_orders_paper hr (by decide) (by rfl) tk (ra_cons (re_var (pv 18)) (ra_nil))))
    (rss_cons (rs_if ((rw_or (rt_cmp (op_neD hr.units) p_ne (re_ix (re_var (pv 19)) (re_int) (fun _ _ => rfl)) (re_str) (nomark _)) (rw_one (rt_cmp (op_neD hr.units) p_ne (re_callB (o_sum rfl) p_sum (by rfl) Bl.z_sum PyProof.Rows.boot_sum (ra_cons (re_lc (own := [("pair", 24)]) (by rfl) rfl sc.nd (ri_seq (re_ix (re_var (pv 19)) (re_int) (fun _ _ => rfl))) (blkOk_by (own := [("pair", 24)]) (N := N_law) (sc := defScope s_law) (by decide +kernel)) (fun _ _ _ _ _ => tg_nm (i := 24) sc.nd rfl (.inl rfl)) (fun _ _ _ _ _ => pts_yes) (fun _ _ _ _ _ => re_ix (re_var (pv 24)) (re_int) (fun _ _ => rfl))) (ra_nil))) (re_var (pv 10)) (nomark _)))).pt) (rss_one (rs_ret (re_bl))) (rss_nil))
    (rss_cons (rs_setLc (i := 20) (own := [("i", 8)]) (by rfl) rfl sc.nd rfl rfl (sw_true rfl rfl rfl (by decide +kernel)) (ri_range1 (by rfl) Bl.z_range (ra_cons (re_var (pv 2)) (ra_nil))) (blkOk_by (own := [("i", 8)]) (N := N_law) (sc := defScope s_law) (by decide +kernel)) (fun _ _ _ _ _ => tg_nm (i := 8) sc.nd rfl (.inr rfl)) (fun _ _ _ _ _ => pts_yes) (fun _ _ _ _ _ => re_callB (o_sum rfl) p_sum (by rfl) Bl.z_sum PyProof.Rows.boot_sum (ra_cons (re_lc (own := [("pair", 24)]) (by rfl) rfl sc.nd (ri_seq (re_ix (re_var (pv 19)) (re_int) (fun _ _ => rfl))) (blkOk_by (own := [("pair", 24)]) (N := N_law) (by kernel_rfl)) (fun _ _ _ _ _ => tg_nm (i := 24) sc.nd rfl (.inl rfl)) (fun _ _ _ _ _ => pts_yes) (fun _ _ _ _ _ => re_op o_mul p_mul (re_ix (re_var (pv 24)) (re_int) (fun _ _ => rfl)) (re_ix (re_var (pv 9)) (re_ix (re_ix (re_var (pv 24)) (re_int) (fun _ _ => rfl)) (re_var (pv 8)) (fun _ _ => rfl)) (fun _ _ => rfl)))) (ra_nil))))
    (rss_one (rs_ret (re_cmp (op_eqD hr.units) p_eq (re_var (pv 20)) (re_var (pv 11)) (nomark _))))))))))))))))))))))))
end
theorem all_mk {l : PySem.W.OpenLaw} {w : World} {K : PySem.W.Frag} {h : Heap} {mg : Str → Option Value} {fa f0 f1 f2 f3 f4 f5 f6 f7 f8 f9 f10 f11 : Addr} (X : K.In h) (G : h.Ns mainGlobals mg) (hfa : mg "law" = some (.ref fa))
    {od0 an0 : Option Addr} {sl0 : Array (Option Value)} {oc0 kV0 dc0 pm0 cd0 ct0 : Value}
    {od1 an1 : Option Addr} {sl1 : Array (Option Value)} {oc1 kV1 dc1 pm1 cd1 ct1 : Value}
    {od2 an2 : Option Addr} {sl2 : Array (Option Value)} {oc2 kV2 dc2 pm2 cd2 ct2 : Value}
    {od3 an3 : Option Addr} {sl3 : Array (Option Value)} {oc3 kV3 dc3 pm3 cd3 ct3 : Value}
    {od4 an4 : Option Addr} {sl4 : Array (Option Value)} {oc4 kV4 dc4 pm4 cd4 ct4 : Value}
    {od5 an5 : Option Addr} {sl5 : Array (Option Value)} {oc5 kV5 dc5 pm5 cd5 ct5 : Value}
    {od6 an6 : Option Addr} {sl6 : Array (Option Value)} {oc6 kV6 dc6 pm6 cd6 ct6 : Value}
    {od7 an7 : Option Addr} {sl7 : Array (Option Value)} {oc7 kV7 dc7 pm7 cd7 ct7 : Value}
    {od8 an8 : Option Addr} {sl8 : Array (Option Value)} {oc8 kV8 dc8 pm8 cd8 ct8 : Value}
    {od9 an9 : Option Addr} {sl9 : Array (Option Value)} {oc9 kV9 dc9 pm9 cd9 ct9 : Value}
    {od10 an10 : Option Addr} {sl10 : Array (Option Value)} {oc10 kV10 dc10 pm10 cd10 ct10 : Value}
    {od11 an11 : Option Addr} {sl11 : Array (Option Value)} {oc11 kV11 dc11 pm11 cd11 ct11 : Value}
    {t0 t1 : Tok}
    (a0 : PySem.W.nsIn K mainGlobals "_law_begin" = some (some (.ref f0))) (l0 : K.lookup f0 = some ⟨oc0, od0, .func (PySem.W.fnOf "_law_begin" "_law_begin" (defArgs s_law_begin) (defBody s_law_begin) (defScope s_law_begin) .none kV0 dc0 pm0 an0 cd0 ct0), sl0⟩) (c0 : PySem.W.codeIn K cd0 "_law_begin" = true) (k0 : PySem.W.keepIn K (.ref f0) = true)
    (a1 : PySem.W.nsIn K mainGlobals "is_integer" = some (some (.ref f1))) (l1 : K.lookup f1 = some ⟨oc1, od1, .func (PySem.W.fnOf "is_integer" "is_integer" (defArgs s_is_integer) (defBody s_is_integer) (defScope s_is_integer) .none kV1 dc1 pm1 an1 cd1 ct1), sl1⟩) (c1 : PySem.W.codeIn K cd1 "is_integer" = true) (k1 : PySem.W.keepIn K (.ref f1) = true)
    (a2 : PySem.W.nsIn K mainGlobals "check_rows" = some (some (.ref f2))) (l2 : K.lookup f2 = some ⟨oc2, od2, .func (PySem.W.fnOf "check_rows" "check_rows" (defArgs s_check_rows) (defBody s_check_rows) (defScope s_check_rows) .none kV2 dc2 pm2 an2 cd2 ct2), sl2⟩) (c2 : PySem.W.codeIn K cd2 "check_rows" = true) (k2 : PySem.W.keepIn K (.ref f2) = true)
    (a3 : PySem.W.nsIn K mainGlobals "mean_paper" = some (some (.ref f3))) (l3 : K.lookup f3 = some ⟨oc3, od3, .func (PySem.W.fnOf "mean_paper" "mean_paper" (defArgs s_mean_paper) (defBody s_mean_paper) (defScope s_mean_paper) .none kV3 dc3 pm3 an3 cd3 ct3), sl3⟩) (c3 : PySem.W.codeIn K cd3 "mean_paper" = true) (k3 : PySem.W.keepIn K (.ref f3) = true)
    (a4 : PySem.W.nsIn K mainGlobals "check_table" = some (some (.ref f4))) (l4 : K.lookup f4 = some ⟨oc4, od4, .func (PySem.W.fnOf "check_table" "check_table" (defArgs s_check_table) (defBody s_check_table) (defScope s_check_table) .none kV4 dc4 pm4 an4 cd4 ct4), sl4⟩) (c4 : PySem.W.codeIn K cd4 "check_table" = true) (k4 : PySem.W.keepIn K (.ref f4) = true)
    (a5 : PySem.W.nsIn K mainGlobals "sums_fault" = some (some (.ref f5))) (l5 : K.lookup f5 = some ⟨oc5, od5, .func (PySem.W.fnOf "sums_fault" "sums_fault" (defArgs s_sums_fault) (defBody s_sums_fault) (defScope s_sums_fault) .none kV5 dc5 pm5 an5 cd5 ct5), sl5⟩) (c5 : PySem.W.codeIn K cd5 "sums_fault" = true) (k5 : PySem.W.keepIn K (.ref f5) = true)
    (a6 : PySem.W.nsIn K mainGlobals "least_order" = some (some (.ref f6))) (l6 : K.lookup f6 = some ⟨oc6, od6, .func (PySem.W.fnOf "least_order" "least_order" (defArgs s_least_order) (defBody s_least_order) (defScope s_least_order) .none kV6 dc6 pm6 an6 cd6 ct6), sl6⟩) (c6 : PySem.W.codeIn K cd6 "least_order" = true) (k6 : PySem.W.keepIn K (.ref f6) = true)
    (a7 : PySem.W.nsIn K mainGlobals "orders_paper" = some (some (.ref f7))) (l7 : K.lookup f7 = some ⟨oc7, od7, .func (PySem.W.fnOf "orders_paper" "orders_paper" (defArgs s_orders_paper) (defBody s_orders_paper) (defScope s_orders_paper) .none kV7 dc7 pm7 an7 cd7 ct7), sl7⟩) (c7 : PySem.W.codeIn K cd7 "orders_paper" = true) (k7 : PySem.W.keepIn K (.ref f7) = true)
    (a8 : PySem.W.nsIn K mainGlobals "_law_take" = some (some (.ref f8))) (l8 : K.lookup f8 = some ⟨oc8, od8, .func (PySem.W.fnOf "_law_take" "_law_take" (defArgs s_law_take) (defBody s_law_take) (defScope s_law_take) .none kV8 dc8 pm8 an8 cd8 ct8), sl8⟩) (c8 : PySem.W.codeIn K cd8 "_law_take" = true) (k8 : PySem.W.keepIn K (.ref f8) = true)
    (a9 : PySem.W.nsIn K mainGlobals "_law_shuffled" = some (some (.ref f9))) (l9 : K.lookup f9 = some ⟨oc9, od9, .func (PySem.W.fnOf "_law_shuffled" "_law_shuffled" (defArgs s_law_shuffled) (defBody s_law_shuffled) (defScope s_law_shuffled) .none kV9 dc9 pm9 an9 cd9 ct9), sl9⟩) (c9 : PySem.W.codeIn K cd9 "_law_shuffled" = true) (k9 : PySem.W.keepIn K (.ref f9) = true)
    (a10 : PySem.W.nsIn K mainGlobals "takes_mean" = some (some (.ref f10))) (l10 : K.lookup f10 = some ⟨oc10, od10, .func (PySem.W.fnOf "takes_mean" "takes_mean" (defArgs s_takes_mean) (defBody s_takes_mean) (defScope s_takes_mean) .none kV10 dc10 pm10 an10 cd10 ct10), sl10⟩) (c10 : PySem.W.codeIn K cd10 "takes_mean" = true) (k10 : PySem.W.keepIn K (.ref f10) = true)
    (a11 : PySem.W.nsIn K mainGlobals "law" = some (some (.ref f11))) (l11 : K.lookup f11 = some ⟨oc11, od11, .func (PySem.W.fnOf "law" "law" (defArgs s_law) (defBody s_law) (defScope s_law) .none kV11 dc11 pm11 an11 cd11 ct11), sl11⟩) (c11 : PySem.W.codeIn K cd11 "law" = true) (k11 : PySem.W.keepIn K (.ref f11) = true)
    (z0 : PySem.W.nsIn K mainGlobals "int" = some none)
    (z1 : PySem.W.nsIn K mainGlobals "list" = some none)
    (z2 : PySem.W.nsIn K mainGlobals "isinstance" = some none)
    (z3 : PySem.W.nsIn K mainGlobals "bool" = some none)
    (z4 : PySem.W.nsIn K mainGlobals "tuple" = some none)
    (z5 : PySem.W.nsIn K mainGlobals "len" = some none)
    (z6 : PySem.W.nsIn K mainGlobals "any" = some none)
    (z7 : PySem.W.nsIn K mainGlobals "sum" = some none)
    (z8 : PySem.W.nsIn K mainGlobals "sorted" = some none)
    (z9 : PySem.W.nsIn K mainGlobals "range" = some none)
    (z10 : PySem.W.nsIn K mainGlobals "min" = some none)
    (z11 : PySem.W.nsIn K mainGlobals "enumerate" = some none)
    (z12 : PySem.W.nsIn K mainGlobals "abs" = some none)
    (n0 : PySem.W.nsIn K mainGlobals "MOST_SIZE" = some (some (.int 6 t0)))
    (n1 : PySem.W.nsIn K mainGlobals "MOST_SUM" = some (some (.int 60 t1))) :
    ∃ fd : FuncData, (∀ (s : Shared) (v : Value), BindsTo s fd ⟨[v], []⟩ [("script", v)]) ∧ ∀ base : Heap, K.In base → base.Ns mainGlobals mg → FnOk l.prog w K mg base (L2.CX l.prog w) 4 fa fd ["script"] (spL K M_law) := by
  have e := hfa.symm.trans (PySem.W.mg_of X G a11)
  cases e
  have Bl : Blt mg := ⟨PySem.W.mg_none_of X G z0, PySem.W.mg_none_of X G z1, PySem.W.mg_none_of X G z2, PySem.W.mg_none_of X G z3, PySem.W.mg_none_of X G z4, PySem.W.mg_none_of X G z5, PySem.W.mg_none_of X G z6, PySem.W.mg_none_of X G z7, PySem.W.mg_none_of X G z8, PySem.W.mg_none_of X G z9, PySem.W.mg_none_of X G z10, PySem.W.mg_none_of X G z11, PySem.W.mg_none_of X G z12, ⟨t0, PySem.W.mg_of X G n0⟩, ⟨t1, PySem.W.mg_of X G n1⟩⟩
  have F_law_begin := fun_mk (st := s_law_begin) l0 c0 k0
  have b_law_begin := F_law_begin.binds (ps := ["script"]) fun _ _ _ _ _ _ us hl => match us, hl with | [_], _ => rfl
  have F_is_integer := fun_mk (st := s_is_integer) l1 c1 k1
  have b_is_integer := F_is_integer.binds (ps := ["value"]) fun _ _ _ _ _ _ us hl => match us, hl with | [_], _ => rfl
  have F_check_rows := fun_mk (st := s_check_rows) l2 c2 k2
  have b_check_rows := F_check_rows.binds (ps := ["one", "other"]) fun _ _ _ _ _ _ us hl => match us, hl with | [_, _], _ => rfl
  have F_mean_paper := fun_mk (st := s_mean_paper) l3 c3 k3
  have b_mean_paper := F_mean_paper.binds (ps := ["one", "other"]) fun _ _ _ _ _ _ us hl => match us, hl with | [_, _], _ => rfl
  have F_check_table := fun_mk (st := s_check_table) l4 c4 k4
  have b_check_table := F_check_table.binds (ps := ["table"]) fun _ _ _ _ _ _ us hl => match us, hl with | [_], _ => rfl
  have F_sums_fault := fun_mk (st := s_sums_fault) l5 c5 k5
  have b_sums_fault := F_sums_fault.binds (ps := ["table"]) fun _ _ _ _ _ _ us hl => match us, hl with | [_], _ => rfl
  have F_least_order := fun_mk (st := s_least_order) l6 c6 k6
  have b_least_order := F_least_order.binds (ps := ["table"]) fun _ _ _ _ _ _ us hl => match us, hl with | [_], _ => rfl
  have F_orders_paper := fun_mk (st := s_orders_paper) l7 c7 k7
  have b_orders_paper := F_orders_paper.binds (ps := ["table"]) fun _ _ _ _ _ _ us hl => match us, hl with | [_], _ => rfl
  have F_law_take := fun_mk (st := s_law_take) l8 c8 k8
  have b_law_take := F_law_take.binds (ps := ["d", "many"]) fun _ _ _ _ _ _ us hl => match us, hl with | [_, _], _ => rfl
  have F_law_shuffled := fun_mk (st := s_law_shuffled) l9 c9 k9
  have b_law_shuffled := F_law_shuffled.binds (ps := ["d", "n"]) fun _ _ _ _ _ _ us hl => match us, hl with | [_, _], _ => rfl
  have F_takes_mean := fun_mk (st := s_takes_mean) l10 c10 k10
  have b_takes_mean := F_takes_mean.binds (ps := ["one", "other", "paper"]) fun _ _ _ _ _ _ us hl => match us, hl with | [_, _, _], _ => rfl
  have F_law := fun_mk (st := s_law) l11 c11 k11
  refine ⟨PySem.W.fnOf "law" "law" (defArgs s_law) (defBody s_law) (defScope s_law) .none kV11 dc11 pm11 an11 cd11 ct11, fun s v => .of_eq rfl, fun base _ _ => ?_⟩
  have K_law_begin := ok_law_begin (P := l.prog) (w := w) (base := base) F_law_begin (PySem.W.mg_of X G a0) b_law_begin Bl 
  have K_is_integer := ok_is_integer (P := l.prog) (w := w) (base := base) F_is_integer (PySem.W.mg_of X G a1) b_is_integer Bl 
  have K_check_rows := ok_check_rows (P := l.prog) (w := w) (base := base) F_check_rows (PySem.W.mg_of X G a2) b_check_rows Bl K_is_integer
  have K_mean_paper := ok_mean_paper (P := l.prog) (w := w) (base := base) F_mean_paper (PySem.W.mg_of X G a3) b_mean_paper Bl K_check_rows
  have K_check_table := ok_check_table (P := l.prog) (w := w) (base := base) F_check_table (PySem.W.mg_of X G a4) b_check_table Bl K_is_integer
  have K_sums_fault := ok_sums_fault (P := l.prog) (w := w) (base := base) F_sums_fault (PySem.W.mg_of X G a5) b_sums_fault Bl 
  have K_least_order := ok_least_order (P := l.prog) (w := w) (base := base) F_least_order (PySem.W.mg_of X G a6) b_least_order Bl 
  have K_orders_paper := ok_orders_paper (P := l.prog) (w := w) (base := base) F_orders_paper (PySem.W.mg_of X G a7) b_orders_paper Bl K_check_table K_sums_fault K_least_order
  have K_law_take := ok_law_take (P := l.prog) (w := w) (base := base) F_law_take (PySem.W.mg_of X G a8) b_law_take Bl 
  have K_law_shuffled := ok_law_shuffled (P := l.prog) (w := w) (base := base) F_law_shuffled (PySem.W.mg_of X G a9) b_law_shuffled Bl K_law_take
  have K_takes_mean := ok_takes_mean (P := l.prog) (w := w) (base := base) F_takes_mean (PySem.W.mg_of X G a10) b_takes_mean Bl K_check_rows K_is_integer
  exact FnOk.imp (fn_law F_law Bl K_law_begin K_mean_paper K_orders_paper K_law_take K_law_shuffled K_takes_mean) spL_imp
end K54

set_option linter.all false
set_option maxRecDepth 100000
set_option maxHeartbeats 1000000
/-! k54: what the mirrors compute. Plain Lean. -/
namespace K54
open PySem L2 Cf
theorem kit_ib : kitB "int" "bool" = some false := by decide +kernel
theorem kit_ii : kitB "int" "int" = some true := by decide +kernel
theorem isi_int (i : Int) (s : S) : pIsi "int" (.int i) s = .ok (.bl true) s := by unfold pIsi; rw [show kitB (tyD (.int i)) "int" = some true from kit_ii]
theorem isb_int (i : Int) (s : S) : pIsi "bool" (.int i) s = .ok (.bl false) s := by unfold pIsi; rw [show kitB (tyD (.int i)) "bool" = some false from kit_ib]
theorem is_integer_int (i : Int) (s : S) : M_is_integer [.int i] s = .ok (.bl true) s := by
  unfold M_is_integer
  refine runD_rt (sRet_ok ?_)
  simp [eAnd_eq, eOr_eq, eNot_eq, e1_eq, e2_eq, eA_eq, eK_eq, eN_eq, eC_eq, eV_eq, eF_eq, bB_eq, bT_eq, bAnd_eq, bOr_eq, bNot_eq, eT_eq, eL_eq, eIf_eq, eIt_eq, eItA_eq, eM_eq, eSl_eq, oNo_eq, oI_eq, eCh_eq, Res.bind_ok, truthD, isi_int, isb_int]
theorem isi_tup (xs : List D) (s : S) : pIsi "tuple" (.tup xs) s = .ok (.bl true) s := rfl
theorem toPs_ints (s : S) (n : Nat) : ∀ ns : List Int, toPs s (n + 1) (ns.map D.int) = some (ns.map PyData.int)
  | [] => by simp [toPs]
  | a :: l => by simp [toPs, toP, toPs_ints s n l]
theorem eqv_ints : ∀ a b : List Int, PyData.eqvAll (a.map PyData.int) (b.map PyData.int) = decide (a = b)
  | [], [] => by simp [PyData.eqvAll]
  | [], _ :: _ => by simp [PyData.eqvAll]
  | _ :: _, [] => by simp [PyData.eqvAll]
  | x :: a, y :: b => by
    simp only [List.map_cons, PyData.eqvAll, PyData.eqv, eqv_ints a b]
    by_cases h : x = y <;> simp [h]
theorem lay_ints : ∀ a : List Int, PyData.canLayAll0 (a.map PyData.int) = true
  | [] => by simp [PyData.canLayAll0]
  | _ :: a => by simp [PyData.canLayAll0, PyData.canLay0, lay_ints a]
theorem depth_ints : ∀ a : List Int, PyData.depthAll (a.map PyData.int) = 0
  | [] => by simp [PyData.depthAll]
  | _ :: a => by simp [PyData.depthAll, PyData.depth, depth_ints a]
theorem shaped_list (a : List Int) : SeqAt.shaped (.list (a.map PyData.int)) = true := by simp [SeqAt.shaped, PyData.canLay0, PyData.depth, lay_ints, depth_ints]
theorem eqP_lst (a b : List Int) (s : S) : eqP (.lst (a.map D.int)) (.lst (b.map D.int)) s = some (decide (a = b)) := by
  simp [eqP, toP, toPs_ints, shaped_list, PyData.eqv, eqv_ints]
theorem eqP_int (a b : Int) (s : S) : eqP (.int a) (.int b) s = some (decide (a = b)) := by
  simp [eqP, toP, SeqAt.shaped, PyData.canLay0, PyData.depth, PyData.eqv]
  rfl
theorem pEq_lst (a b : List Int) (s : S) : pEq (.lst (a.map D.int)) (.lst (b.map D.int)) s = .ok (.bl (decide (a = b))) s := by simp [pEq, eqP_lst]
theorem pNe_lst (a b : List Int) (s : S) : pNe (.lst (a.map D.int)) (.lst (b.map D.int)) s = .ok (.bl (!decide (a = b))) s := by simp [pNe, eqP_lst]
theorem pEq_int (a b : Int) (s : S) : pEq (.int a) (.int b) s = .ok (.bl (decide (a = b))) s := by simp [pEq, eqP_int]
theorem pNe_int (a b : Int) (s : S) : pNe (.int a) (.int b) s = .ok (.bl (!decide (a = b))) s := by simp [pNe, eqP_int]
theorem boolsD_map {α : Type} (p : α → Bool) : ∀ l : List α, boolsD (l.map fun x => D.bl (p x)) = some (l.map p)
  | [] => rfl
  | x :: l => by simp [boolsD, boolsD_map p l]
theorem any_ints (xs : List Int) (s : S) (i j : Nat) (fi : Ei) (e : En) (he : fi e s = .ok (.seq (xs.map D.int)) s) (hi : i < e.length) (hz : xs.length ≤ sizeLine) : eA pAny (eK (eLc false fi [i] (.nm i) bYes (eNot (eF 1 M_is_integer (eK (eV i) eN)))) eN) e s = .ok (.bl false) s := by
  have h1 : eLc false fi [i] (.nm i) bYes (eNot (eF 1 M_is_integer (eK (eV i) eN))) e s = .ok (.lst (xs.map fun _ => D.bl false)) s := by
    rw [eLc_map (F := fun _ => .bl false) he (by simpa using hz) fun d hd => by
      obtain ⟨x, _, rfl⟩ := List.mem_map.mp hd
      have hw : i < (wipeE e [i]).length := by simp [wipeE, hi]
      refine ⟨_, by simp only [asg]; rfl, ?_⟩
      simp [eAnd_eq, eOr_eq, eNot_eq, e1_eq, e2_eq, eA_eq, eK_eq, eN_eq, eC_eq, eV_eq, eF_eq, bB_eq, bT_eq, bAnd_eq, bOr_eq, bNot_eq, eT_eq, eL_eq, eIf_eq, eIt_eq, eItA_eq, eM_eq, eSl_eq, oNo_eq, oI_eq, eCh_eq, Res.bind_ok, truthD, hw, is_integer_int]]
    rw [List.map_map]
    rfl
  simp only [eAnd_eq, eOr_eq, eNot_eq, e1_eq, e2_eq, eA_eq, eK_eq, eN_eq, eC_eq, eV_eq, eF_eq, bB_eq, bT_eq, bAnd_eq, bOr_eq, bNot_eq, eT_eq, eL_eq, eIf_eq, eIt_eq, eItA_eq, eM_eq, eSl_eq, oNo_eq, oI_eq, eCh_eq, Res.bind_ok, truthD, h1, pAny, lsq, boolsD_map (fun _ => false)]
  simp
/-! ### check_rows -/
theorem check_row {a b : D} {c : Option D} {xs : List Int} (h1 : 1 ≤ xs.length) (h2 : xs.length ≤ 6) (s : S) :
    (sSeq (sIf (bOr (bNot (bT (e1 (pIsi "tuple") (eV 2)))) (bNot (bB (eCh pLe pLe (eC (.int 1)) (eA pLen (eK (eV 2) (eN))) (eC (.int 6)))))) (sBad) (sNil))
      (sIf (bT (eA pAny (eK (eLc false (eIt itSq (eV 2)) [3] (.nm 3) bYes (eNot (eF 1 M_is_integer (eK (eV 3) (eN))))) (eN)))) (sBad) (sNil))) [some a, some b, some (.tup (xs.map D.int)), c] s = .ok (.nx [some a, some b, some (.tup (xs.map D.int)), c]) s := by
  rw [sSeq_nx ((sIf_no (s' := s) (by simp [eAnd_eq, eOr_eq, eNot_eq, e1_eq, e2_eq, eA_eq, eK_eq, eN_eq, eC_eq, eV_eq, eF_eq, bB_eq, bT_eq, bAnd_eq, bOr_eq, bNot_eq, eT_eq, eL_eq, eIf_eq, eIt_eq, eItA_eq, eM_eq, eSl_eq, oNo_eq, oI_eq, eCh_eq, Res.bind_ok, truthD, isi_tup, pLen, sqOf, pLe, (by omega : (1 : Int) ≤ (xs.length : Int)), (by omega : (xs.length : Int) ≤ 6)])).trans rfl)]
  refine (sIf_no (s' := s) ?_).trans rfl
  rw [bT_eq, any_ints xs s 3 3 _ _ rfl (by simp) (Nat.le_trans h2 (by decide))]
  rfl
theorem check_rows_ok {xs ys : List Int} (h1 : 1 ≤ xs.length) (h2 : xs.length ≤ 6) (h : ys.length = xs.length) (s : S) : M_check_rows [.tup (xs.map D.int), .tup (ys.map D.int)] s = .ok .non s := by
  unfold M_check_rows B_check_rows
  refine runD_nx (e := [some (.tup (xs.map D.int)), some (.tup (ys.map D.int)), some (.tup (ys.map D.int)), none]) ?_
  show sSeq _ _ [some (.tup (xs.map D.int)), some (.tup (ys.map D.int)), none, none] s = _
  rw [sSeq_nx (e' := [some (.tup (xs.map D.int)), some (.tup (ys.map D.int)), some (.tup (ys.map D.int)), none]) (s' := s)]
  · refine (sIf_no (s' := s) ?_).trans rfl
    simp [eAnd_eq, eOr_eq, eNot_eq, e1_eq, e2_eq, eA_eq, eK_eq, eN_eq, eC_eq, eV_eq, eF_eq, bB_eq, bT_eq, bAnd_eq, bOr_eq, bNot_eq, eT_eq, eL_eq, eIf_eq, eIt_eq, eItA_eq, eM_eq, eSl_eq, oNo_eq, oI_eq, eCh_eq, Res.bind_ok, truthD, pLen, sqOf, pNe_int, h]
  · rw [sFor_seq (xs := [.tup (xs.map D.int), .tup (ys.map D.int)]) (s' := s) rfl]
    simp only [forL, asg]
    rw [show ([some (.tup (xs.map D.int)), some (.tup (ys.map D.int)), none, none] : En).set 2 (some (.tup (xs.map D.int))) = [some (.tup (xs.map D.int)), some (.tup (ys.map D.int)), some (.tup (xs.map D.int)), none] from rfl, check_row h1 h2]
    simp only
    rw [show ([some (.tup (xs.map D.int)), some (.tup (ys.map D.int)), some (.tup (xs.map D.int)), none] : En).set 2 (some (.tup (ys.map D.int))) = [some (.tup (xs.map D.int)), some (.tup (ys.map D.int)), some (.tup (ys.map D.int)), none] from rfl, check_row (by omega) (by omega)]
/-! ### mean_paper -/
theorem pIx_nat (l : List Int) {i : Nat} (hi : i < l.length) (s : S) : pIx (.lst (l.map D.int)) (.int i) s = .ok (.int (l.getD i 0)) s := by
  have e : atI (l.map D.int) (i : Int) = some (.int (l.getD i 0)) := by
    unfold atI ixN
    rw [if_pos (by omega), if_pos (by simp; omega)]
    simp [hi]
  simp only [pIx, sqOf, lsq, e]
theorem pIx_natT (l : List Int) {i : Nat} (hi : i < l.length) (s : S) : pIx (.tup (l.map D.int)) (.int i) s = .ok (.int (l.getD i 0)) s := by
  have e : atI (l.map D.int) (i : Int) = some (.int (l.getD i 0)) := by
    unfold atI ixN
    rw [if_pos (by omega), if_pos (by simp; omega)]
    simp [hi]
  simp only [pIx, sqOf, e]
theorem pIx_last {ds : List D} {d : D} (h : ds.getLast? = some d) (s : S) : pIx (.lst ds) (.int (-1)) s = .ok d s := by
  obtain ⟨ys, rfl⟩ := List.getLast?_eq_some_iff.mp h
  have e : atI (ys ++ [d]) (-1) = some d := by
    unfold atI ixN
    rw [if_neg (by omega), if_pos (by simp only [List.length_append, List.length_singleton]; omega)]
    have : ((-1 : Int) + (ys ++ [d]).length).toNat = ys.length := by simp; omega
    simp only [Option.bind_some, this]
    simp
  simp only [pIx, sqOf, lsq, e]
theorem pIx_head {ds : List D} {d : D} (h : ds.head? = some d) (s : S) : pIx (.lst ds) (.int 0) s = .ok d s := by
  cases ds with
  | nil => cases h
  | cons x xs =>
    cases h
    have e : atI (d :: xs) 0 = some d := by
      unfold atI ixN
      rw [if_pos (by omega), if_pos (by simp only [List.length_cons]; omega)]
      rfl
    simp only [pIx, sqOf, lsq, e]
theorem pRng1_nat {n : Nat} (h : n ≤ 1000) (s : S) : pRng1 [.int n] s = .ok (.seq ((List.range n).map fun i : Nat => D.int i)) s := by
  have h2 : (n : Int) < 2 ^ 62 := by have : (2 : Int) ^ 62 = 4611686018427387904 := by decide
                                     omega
  have h3 : -(2 ^ 62 : Int) ≤ n := by have : (2 : Int) ^ 62 = 4611686018427387904 := by decide
                                      omega
  simp only [pRng1, h2, h3, and_self, if_true, Int.toNat_natCast]
  congr 2
  exact List.map_congr_left fun i _ => by simp
theorem pRng2_nat {b n : Nat} (hb : b ≤ 1000) (h : n ≤ 1000) (s : S) : pRng2 [.int b, .int n] s = .ok (.seq ((List.range (n - b)).map fun k : Nat => D.int ((b + k : Nat) : Int))) s := by
  have e : (2 : Int) ^ 62 = 4611686018427387904 := by decide
  have h2 : -(2 ^ 62 : Int) ≤ b ∧ (b : Int) < 2 ^ 62 ∧ -(2 ^ 62 : Int) ≤ n ∧ (n : Int) < 2 ^ 62 := by omega
  simp only [pRng2, h2, and_self, if_true]
  have : ((n : Int) - b).toNat = n - b := by omega
  rw [this]
  congr 2
/-- places of a range that pass -/
theorem idx_fil {b n : Nat} {p : Nat → Bool} {fi : Ei} {c : Eb} {j : Nat} {e : En} {s : S} (h : fi e s = .ok (.seq ((List.range n).map fun k : Nat => D.int ((b + k : Nat) : Int))) s) (hn : n ≤ 1000) (hj : j < e.length)
    (hc : ∀ i, b ≤ i → i < b + n → c ((wipeE e [j]).set j (some (.int i))) s = .ok (p i) s) : eLc false fi [j] (.nm j) c (eV j) e s = .ok (.lst ((((List.range n).map (b + ·)).filter p).map fun i : Nat => D.int i)) s := by
  rw [eLc_fil (P := fun d => match d with | .int i => p i.toNat | _ => false) (F := id) h (by simp; exact Nat.le_trans hn (by decide)) fun d hd => by
    obtain ⟨k, hk, rfl⟩ := List.mem_map.mp hd
    have hk' := List.mem_range.mp hk
    refine ⟨_, by simp only [asg]; rfl, ?_, fun _ => ?_⟩
    · rw [hc (b + k) (by omega) (by omega)]
      simp only [Int.toNat_natCast]
    · have : j < (wipeE e [j]).length := by simp [wipeE, hj]
      simp [eV_eq, this]]
  simp only [mkL_false, List.map_id]
  congr 2
  rw [List.filter_map, List.filter_map, List.map_map]
  rfl
theorem enum_mapG {xs : List Int} {g : Nat → Int → Int} {fi : Ei} {c : Ev} {vs : List Nat} {t : Tgt} {e : En} {s : S} (h : fi e s = .ok (.seq ((List.range (xs.map D.int).length).zipWith (fun (i : Nat) d => D.tup [.int (i : Int), d]) (xs.map D.int))) s) (hn : xs.length ≤ 1000)
    (hc : ∀ i (hi : i < xs.length), ∃ e1, asg t (.tup [.int (i : Nat), .int xs[i]]) (wipeE e vs) = some e1 ∧ c e1 s = .ok (.int (g i xs[i])) s) : eLc false fi vs t bYes c e s = .ok (.lst (((List.range xs.length).zipWith g xs).map D.int)) s := by
  rw [eLc_map (F := fun d => match d with | .tup [.int i, .int x] => .int (g i.toNat x) | _ => .non) h (by simp; exact Nat.le_trans hn (by decide)) fun d hd => by
    obtain ⟨i, hi, rfl⟩ := List.mem_iff_getElem.mp hd
    have hi' : i < xs.length := by simpa using hi
    obtain ⟨e1, a1, a2⟩ := hc i hi'
    refine ⟨e1, ?_, ?_⟩
    · rw [← a1]; simp
    · rw [a2]; simp]
  simp only [mkL_false]
  congr 2
  refine List.ext_getElem (by simp) fun i h1 h2 => ?_
  simp
theorem enum_map {xs : List Int} {g : Nat → Int → Int} {fi : Ei} {c : Ev} {vs : List Nat} {t : Tgt} {e : En} {s : S} (h : fi e s = .ok (.seq ((List.range (xs.map D.int).length).zipWith (fun (i : Nat) d => D.tup [.int (i : Int), d]) (xs.map D.int))) s) (hn : xs.length ≤ 1000)
    (hc : ∀ i x, i < xs.length → ∃ e1, asg t (.tup [.int (i : Nat), .int x]) (wipeE e vs) = some e1 ∧ c e1 s = .ok (.int (g i x)) s) : eLc false fi vs t bYes c e s = .ok (.lst (((List.range xs.length).zipWith g xs).map D.int)) s := enum_mapG h hn fun i hi => hc i xs[i] hi
inductive Rep : List Int → List D → List Int → Prop
  | nil (r : List Int) : Rep r [] r
  | cons {r u : List Int} {st : List D} {h l : Nat} {z : Int} : h < r.length → l < r.length → 0 ≤ z → z ≤ r.getD h 0 - r.getD l 0 → Rep (mv r h l z) st u → Rep r (.tup [.int h, .int l, .int z] :: st) u
def cndM : Eb := (bB (e2 pNe (eV 5) (eV 2)))
def bodM : Es := (sSeq (sSet 7 (e2 pIx (eLc false (eItA pRng1 (eK (eA pLen (eK (eV 5) (eN))) (eN))) [10] (.nm 10) (bB (e2 pGt (e2 pIx (eV 5) (eV 10)) (e2 pIx (eV 2) (eV 10)))) (eV 10)) (e1 pNeg (eC (.int 1)))))
  (sSeq (sSet 8 (e2 pIx (eLc false (eItA pRng2 (eK (e2 (pAdd false) (eV 7) (eC (.int 1))) (eK (eA pLen (eK (eV 5) (eN))) (eN)))) [10] (.nm 10) (bB (e2 pLt (e2 pIx (eV 5) (eV 10)) (e2 pIx (eV 2) (eV 10)))) (eV 10)) (eC (.int 0))))
  (sSeq (sSet 9 (eA pMin (eK (e2 pSub (e2 pIx (eV 5) (eV 7)) (e2 pIx (eV 2) (eV 7))) (eK (e2 pSub (e2 pIx (eV 2) (eV 8)) (e2 pIx (eV 5) (eV 8))) (eN)))))
  (sSeq (sSet 5 (eLc false (eItA pEnum (eK (eV 5) (eN))) [10, 11] (.tp [.nm 10, .nm 11]) bYes (eIf (bB (e2 pEq (eV 10) (eV 7))) (e2 pSub (eV 11) (eV 9)) (eIf (bB (e2 pEq (eV 10) (eV 8))) (e2 (pAdd false) (eV 11) (eV 9)) (eV 11)))))
  (sExpr (eM mApp (eV 6) (eK (eT (eK (eV 7) (eK (eV 8) (eK (eV 9) (eN))))) (eN))))))))
def envM (X Y : D) (u d : List Int) (c4 : Option D) (r : List Int) (m : Nat) (c7 c8 c9 : Option D) : En := [some X, some Y, some (.lst (u.map D.int)), some (.lst (d.map D.int)), c4, some (.lst (r.map D.int)), some (.ref m), c7, c8, c9, none, none]
theorem bod_g2 {X Y : D} {u d r : List Int} {c4 c7 c8 c9 : Option D} {s : S} {m hh : Nat} (hl : r.length = u.length) (hr : r.length ≤ 6) (q : ((List.range r.length).filter fun i => decide (u.getD i 0 < r.getD i 0)).getLast? = some hh) :
    (e2 pIx (eLc false (eItA pRng1 (eK (eA pLen (eK (eV 5) (eN))) (eN))) [10] (.nm 10) (bB (e2 pGt (e2 pIx (eV 5) (eV 10)) (e2 pIx (eV 2) (eV 10)))) (eV 10)) (e1 pNeg (eC (.int 1)))) (envM X Y u d c4 r m c7 c8 c9) s = .ok (.int hh) s := by
  have g1 : eLc false (eItA pRng1 (eK (eA pLen (eK (eV 5) (eN))) (eN))) [10] (.nm 10) (bB (e2 pGt (e2 pIx (eV 5) (eV 10)) (e2 pIx (eV 2) (eV 10)))) (eV 10) (envM X Y u d c4 r m c7 c8 c9) s = .ok (.lst ((((List.range r.length).map (0 + ·)).filter fun i => decide (u.getD i 0 < r.getD i 0)).map fun i : Nat => D.int i)) s :=
    idx_fil (by simp [eAnd_eq, eOr_eq, eNot_eq, e1_eq, e2_eq, eA_eq, eK_eq, eN_eq, eC_eq, eV_eq, eF_eq, bB_eq, bT_eq, bAnd_eq, bOr_eq, bNot_eq, eT_eq, eL_eq, eIf_eq, eIt_eq, eItA_eq, eM_eq, eSl_eq, oNo_eq, oI_eq, eCh_eq, Res.bind_ok, truthD, envM, pLen, sqOf, lsq, pRng1_nat (by omega : r.length ≤ 1000)]) (by omega) (by simp [envM]) fun i _ hi => by
      have hi1 : i < r.length := by omega
      have hi2 : i < u.length := by omega
      simp only [envM, wipeE, List.set_cons_succ, List.set_cons_zero, bB_eq, e2_eq, eV_eq, List.getElem?_cons_succ, List.getElem?_cons_zero, Res.bind_ok, pIx_nat _ hi1, pIx_nat _ hi2, pGt]
  rw [show (List.range r.length).map (0 + ·) = List.range r.length by simp] at g1
  rw [e2_eq, g1]
  simp only [Res.bind_ok, e1_eq, eC_eq, pNeg]
  exact pIx_last (by rw [List.getLast?_map, q]; rfl) _
theorem bod_g3 {X Y : D} {u d r : List Int} {c4 c8 c9 : Option D} {s : S} {m hh ll : Nat} (hl : r.length = u.length) (hr : r.length ≤ 6) (hh6 : hh < r.length) (q : (((List.range (r.length - (hh + 1))).map (hh + 1 + ·)).filter fun i => decide (r.getD i 0 < u.getD i 0)).head? = some ll) :
    (e2 pIx (eLc false (eItA pRng2 (eK (e2 (pAdd false) (eV 7) (eC (.int 1))) (eK (eA pLen (eK (eV 5) (eN))) (eN)))) [10] (.nm 10) (bB (e2 pLt (e2 pIx (eV 5) (eV 10)) (e2 pIx (eV 2) (eV 10)))) (eV 10)) (eC (.int 0))) (envM X Y u d c4 r m (some (.int hh)) c8 c9) s = .ok (.int ll) s := by
  rw [e2_eq, idx_fil (b := hh + 1) (n := r.length - (hh + 1)) (p := fun i => decide (r.getD i 0 < u.getD i 0)) (by
    have := pRng2_nat (b := hh + 1) (n := r.length) (by omega) (by omega) s
    simp [eAnd_eq, eOr_eq, eNot_eq, e1_eq, e2_eq, eA_eq, eK_eq, eN_eq, eC_eq, eV_eq, eF_eq, bB_eq, bT_eq, bAnd_eq, bOr_eq, bNot_eq, eT_eq, eL_eq, eIf_eq, eIt_eq, eItA_eq, eM_eq, eSl_eq, oNo_eq, oI_eq, eCh_eq, Res.bind_ok, truthD, envM, pLen, sqOf, lsq, pAdd]
    exact this) (by omega) (by simp [envM]) fun i _ hi => by
    have hi1 : i < r.length := by omega
    have hi2 : i < u.length := by omega
    simp only [envM, wipeE, List.set_cons_succ, List.set_cons_zero, bB_eq, e2_eq, eV_eq, List.getElem?_cons_succ, List.getElem?_cons_zero, Res.bind_ok, pIx_nat _ hi1, pIx_nat _ hi2, pLt]]
  simp only [Res.bind_ok, eC_eq]
  exact pIx_head (by rw [List.head?_map, q]; rfl) _
theorem bod_g4 {X Y : D} {u d r : List Int} {c4 c9 : Option D} {s : S} {m hh ll : Nat} (f1 : hh < r.length) (f2 : ll < r.length) (hi1 : hh < u.length) (hi2 : ll < u.length) :
    (eA pMin (eK (e2 pSub (e2 pIx (eV 5) (eV 7)) (e2 pIx (eV 2) (eV 7))) (eK (e2 pSub (e2 pIx (eV 2) (eV 8)) (e2 pIx (eV 5) (eV 8))) (eN)))) (envM X Y u d c4 r m (some (.int hh)) (some (.int ll)) c9) s = .ok (.int (stepZ u r hh ll)) s := by
  simp [eAnd_eq, eOr_eq, eNot_eq, e1_eq, e2_eq, eA_eq, eK_eq, eN_eq, eC_eq, eV_eq, eF_eq, bB_eq, bT_eq, bAnd_eq, bOr_eq, bNot_eq, eT_eq, eL_eq, eIf_eq, eIt_eq, eItA_eq, eM_eq, eSl_eq, oNo_eq, oI_eq, eCh_eq, Res.bind_ok, truthD, envM, pIx_nat, f1, f2, hi1, hi2, pSub, pMin, stepZ]
theorem bod_g5 {X Y : D} {u d r : List Int} {c4 : Option D} {s : S} {m hh ll : Nat} {z : Int} (hr : r.length ≤ 6) :
    (eLc false (eItA pEnum (eK (eV 5) (eN))) [10, 11] (.tp [.nm 10, .nm 11]) bYes (eIf (bB (e2 pEq (eV 10) (eV 7))) (e2 pSub (eV 11) (eV 9)) (eIf (bB (e2 pEq (eV 10) (eV 8))) (e2 (pAdd false) (eV 11) (eV 9)) (eV 11)))) (envM X Y u d c4 r m (some (.int hh)) (some (.int ll)) (some (.int z))) s = .ok (.lst ((mv r hh ll z).map D.int)) s :=
  enum_map (xs := r) (g := fun i x => if i = hh then x - z else if i = ll then x + z else x) (by simp [eAnd_eq, eOr_eq, eNot_eq, e1_eq, e2_eq, eA_eq, eK_eq, eN_eq, eC_eq, eV_eq, eF_eq, bB_eq, bT_eq, bAnd_eq, bOr_eq, bNot_eq, eT_eq, eL_eq, eIf_eq, eIt_eq, eItA_eq, eM_eq, eSl_eq, oNo_eq, oI_eq, eCh_eq, Res.bind_ok, truthD, envM, pEnum]) (by omega) fun i x hi => by
    refine ⟨_, rfl, ?_⟩
    have k1 : ((i : Int) = hh) = (i = hh) := propext (by omega)
    have k2 : ((i : Int) = ll) = (i = ll) := propext (by omega)
    simp only [eAnd_eq, eOr_eq, eNot_eq, e1_eq, e2_eq, eA_eq, eK_eq, eN_eq, eC_eq, eV_eq, eF_eq, bB_eq, bT_eq, bAnd_eq, bOr_eq, bNot_eq, eT_eq, eL_eq, eIf_eq, eIt_eq, eItA_eq, eM_eq, eSl_eq, oNo_eq, oI_eq, eCh_eq, Res.bind_ok, truthD, envM, wipeE, pEq_int, List.set_cons_succ, List.set_cons_zero, List.getElem?_cons_succ, List.getElem?_cons_zero, k1, k2]
    by_cases c1 : i = hh
    · simp [c1, pSub]
    · by_cases c2 : i = ll
      · subst c2
        rw [if_neg c1, if_pos rfl]
        simp [c1, pAdd]
      · simp [c1, c2]
theorem bod_g6 {X Y : D} {u d r : List Int} {c4 : Option D} {s : S} {hh ll : Nat} {z : Int} {acc : List D} (ha : acc.length < 1000) :
    (eM mApp (eV 6) (eK (eT (eK (eV 7) (eK (eV 8) (eK (eV 9) (eN))))) (eN))) (envM X Y u d c4 r s.length (some (.int hh)) (some (.int ll)) (some (.int z))) (s ++ [acc]) = .ok .non (s ++ [acc ++ [.tup [.int hh, .int ll, .int z]]]) := by
  have h1 : acc.length < sizeLine := Nat.lt_trans ha (by decide)
  simp [eAnd_eq, eOr_eq, eNot_eq, e1_eq, e2_eq, eA_eq, eK_eq, eN_eq, eC_eq, eV_eq, eF_eq, bB_eq, bT_eq, bAnd_eq, bOr_eq, bNot_eq, eT_eq, eL_eq, eIf_eq, eIt_eq, eItA_eq, eM_eq, eSl_eq, oNo_eq, oI_eq, eCh_eq, Res.bind_ok, truthD, envM, lsw, mApp, h1]
theorem bod_ok {X Y : D} {u d r : List Int} {c4 c7 c8 c9 : Option D} {s : S} {acc : List D} (h : Lev u r) (hne : r ≠ u) (hl : u.length ≤ 6) (ha : acc.length < 1000) : ∃ hh ll : Nat, hh < r.length ∧ ll < r.length ∧ 0 ≤ stepZ u r hh ll ∧ stepZ u r hh ll ≤ r.getD hh 0 - r.getD ll 0 ∧ Lev u (mv r hh ll (stepZ u r hh ll)) ∧ mis u (mv r hh ll (stepZ u r hh ll)) + 1 ≤ mis u r ∧
    bodM (envM X Y u d c4 r s.length c7 c8 c9) (s ++ [acc]) = .ok (.nx (envM X Y u d c4 (mv r hh ll (stepZ u r hh ll)) s.length (some (.int hh)) (some (.int ll)) (some (.int (stepZ u r hh ll))))) (s ++ [acc ++ [.tup [.int hh, .int ll, .int (stepZ u r hh ll)]]]) := by
  obtain ⟨hh, ll, q1, q2, f1, f2, f3, f4, f5, f6⟩ := lev_step h hne
  refine ⟨hh, ll, f1, f2, f3, f4, f5, f6, ?_⟩
  have hr : r.length ≤ 6 := by rw [h.len]; exact hl
  have hi1 : hh < u.length := by rw [← h.len]; omega
  have hi2 : ll < u.length := by rw [← h.len]; omega
  unfold bodM
  rw [sSeq_nx (sSet_ok (bod_g2 h.len hr q1)), show (envM X Y u d c4 r s.length c7 c8 c9).set 7 (some (.int hh)) = envM X Y u d c4 r s.length (some (.int hh)) c8 c9 from rfl]
  rw [sSeq_nx (sSet_ok (bod_g3 h.len hr f1 q2)), show (envM X Y u d c4 r s.length (some (.int hh)) c8 c9).set 8 (some (.int ll)) = envM X Y u d c4 r s.length (some (.int hh)) (some (.int ll)) c9 from rfl]
  rw [sSeq_nx (sSet_ok (bod_g4 f1 f2 hi1 hi2))]
  rw [show (envM X Y u d c4 r s.length (some (.int hh)) (some (.int ll)) c9).set 9 (some (.int (stepZ u r hh ll))) = envM X Y u d c4 r s.length (some (.int hh)) (some (.int ll)) (some (.int (stepZ u r hh ll))) from rfl]
  rw [sSeq_nx (sSet_ok (bod_g5 hr))]
  exact sExpr_ok (bod_g6 ha)
theorem loop_ok {X Y : D} {u d : List Int} {c4 : Option D} {s : S} (hl : u.length ≤ 6) : ∀ (k fuel : Nat) (r : List Int) (acc : List D) (c7 c8 c9 : Option D), Lev u r → mis u r ≤ k → k < fuel → acc.length + k < 1000 → ∃ st c7' c8' c9',
    sWhile fuel cndM bodM (envM X Y u d c4 r s.length c7 c8 c9) (s ++ [acc]) = .ok (.nx (envM X Y u d c4 u s.length c7' c8' c9')) (s ++ [acc ++ st]) ∧ Rep r st u := by
  intro k
  induction k with
  | zero =>
    intro fuel r acc c7 c8 c9 h hm hf ha
    obtain ⟨f, rfl⟩ : ∃ f, fuel = f + 1 := ⟨fuel - 1, by omega⟩
    by_cases e : r = u
    · subst e
      refine ⟨[], c7, c8, c9, ?_, .nil _⟩
      rw [sWhile_no (s' := s ++ [acc]) (by simp only [cndM, envM, eAnd_eq, eOr_eq, eNot_eq, e1_eq, e2_eq, eA_eq, eK_eq, eN_eq, eC_eq, eV_eq, eF_eq, bB_eq, bT_eq, bAnd_eq, bOr_eq, bNot_eq, eT_eq, eL_eq, eIf_eq, eIt_eq, eItA_eq, eM_eq, eSl_eq, oNo_eq, oI_eq, eCh_eq, Res.bind_ok, truthD, List.getElem?_cons_succ, List.getElem?_cons_zero, pNe_lst]; simp), List.append_nil]
    · obtain ⟨hh, ll, _, _, _, _, _, f6, _⟩ := bod_ok (X := X) (Y := Y) (d := d) (c4 := c4) (c7 := c7) (c8 := c8) (c9 := c9) (s := s) h e hl (acc := acc) (by omega)
      have := mis_nonneg u (mv r hh ll (stepZ u r hh ll))
      omega
  | succ k ih =>
    intro fuel r acc c7 c8 c9 h hm hf ha
    obtain ⟨f, rfl⟩ : ∃ f, fuel = f + 1 := ⟨fuel - 1, by omega⟩
    by_cases e : r = u
    · subst e
      refine ⟨[], c7, c8, c9, ?_, .nil _⟩
      rw [sWhile_no (s' := s ++ [acc]) (by simp only [cndM, envM, eAnd_eq, eOr_eq, eNot_eq, e1_eq, e2_eq, eA_eq, eK_eq, eN_eq, eC_eq, eV_eq, eF_eq, bB_eq, bT_eq, bAnd_eq, bOr_eq, bNot_eq, eT_eq, eL_eq, eIf_eq, eIt_eq, eItA_eq, eM_eq, eSl_eq, oNo_eq, oI_eq, eCh_eq, Res.bind_ok, truthD, List.getElem?_cons_succ, List.getElem?_cons_zero, pNe_lst]; simp), List.append_nil]
    · obtain ⟨hh, ll, f1, f2, f3, f4, f5, f6, f7⟩ := bod_ok (X := X) (Y := Y) (d := d) (c4 := c4) (c7 := c7) (c8 := c8) (c9 := c9) (s := s) h e hl (acc := acc) (by omega)
      rw [sWhile_yes (s' := s ++ [acc]) (by simp only [cndM, envM, eAnd_eq, eOr_eq, eNot_eq, e1_eq, e2_eq, eA_eq, eK_eq, eN_eq, eC_eq, eV_eq, eF_eq, bB_eq, bT_eq, bAnd_eq, bOr_eq, bNot_eq, eT_eq, eL_eq, eIf_eq, eIt_eq, eItA_eq, eM_eq, eSl_eq, oNo_eq, oI_eq, eCh_eq, Res.bind_ok, truthD, List.getElem?_cons_succ, List.getElem?_cons_zero, pNe_lst, decide_eq_false e]; simp) f7]
      obtain ⟨st, a, b, c, g1, g2⟩ := ih f (mv r hh ll (stepZ u r hh ll)) (acc ++ [.tup [.int hh, .int ll, .int (stepZ u r hh ll)]]) _ _ _ f5 (by omega) (by omega) (by simp; omega)
      refine ⟨.tup [.int hh, .int ll, .int (stepZ u r hh ll)] :: st, a, b, c, ?_, .cons f1 f2 f3 f4 g2⟩
      rw [g1, List.append_assoc]
      rfl
theorem pSum_tup (l : List Int) (s : S) : pSum [.tup (l.map D.int)] s = .ok (.int l.sum) s := by simp only [pSum, sqOf, intsD_map]
theorem pSum_lst (l : List Int) (s : S) : pSum [.lst (l.map D.int)] s = .ok (.int l.sum) s := by simp only [pSum, sqOf, lsq, intsD_map]
theorem pSoR_tup (l : List Int) (s : S) : pSoR false (.tup (l.map D.int)) s = .ok (.lst ((dsc l).map D.int)) s := by simp only [pSoR, srtB, sqOf, intsD_map, if_true, dsc, mkL_false]
theorem pSl_top (l : List Int) {k : Nat} (h : k ≤ l.length) (s : S) : pSl false (.lst (l.map D.int)) none (some (k : Int)) s = .ok (.lst ((l.take k).map D.int)) s := by
  simp only [pSl, lsq, cutD, HT.sIx_none, HT.sIx_nat, mkL_false, List.drop_zero, Nat.sub_zero, List.length_map, Nat.min_eq_left h, List.map_take]
def envT (X Y : D) (u d : List Int) (c4 : Option D) : En := [some X, some Y, some (.lst (u.map D.int)), some (.lst (d.map D.int)), c4, none, none, none, none, none, none, none]
def bodT : Es := (sIf (bB (e2 pGt (eA pSum (eK (eSl false (eV 2) oNo (oI (eV 4))) (eN))) (eA pSum (eK (eSl false (eV 3) oNo (oI (eV 4))) (eN))))) (sRet (eT (eK (eC (.str "top")) (eK (eV 4) (eN))))) (sNil))
theorem tops {X Y : D} {u d : List Int} {s : S} : ∀ (ks : List Nat) (c4 : Option D), (∀ k ∈ ks, k ≤ u.length ∧ k ≤ d.length) →
    ((∀ k ∈ ks, (u.take k).sum ≤ (d.take k).sum) ∧ ∃ c, forL (.nm 4) bodT (ks.map fun k : Nat => D.int k) (envT X Y u d c4) s = .ok (.nx (envT X Y u d c)) s) ∨
    ((∃ k ∈ ks, (d.take k).sum < (u.take k).sum) ∧ ∃ k : Nat, forL (.nm 4) bodT (ks.map fun k : Nat => D.int k) (envT X Y u d c4) s = .ok (.rt (.tup [.str "top", .int k])) s)
  | [], c4, _ => .inl ⟨fun k hk => by simp at hk, c4, rfl⟩
  | k :: ks, c4, h => by
    obtain ⟨h1, h2⟩ := h k List.mem_cons_self
    have hc : (bB (e2 pGt (eA pSum (eK (eSl false (eV 2) oNo (oI (eV 4))) (eN))) (eA pSum (eK (eSl false (eV 3) oNo (oI (eV 4))) (eN))))) (envT X Y u d (some (.int k))) s = .ok (decide ((d.take k).sum < (u.take k).sum)) s := by
      simp only [eAnd_eq, eOr_eq, eNot_eq, e1_eq, e2_eq, eA_eq, eK_eq, eN_eq, eC_eq, eV_eq, eF_eq, bB_eq, bT_eq, bAnd_eq, bOr_eq, bNot_eq, eT_eq, eL_eq, eIf_eq, eIt_eq, eItA_eq, eM_eq, eSl_eq, oNo_eq, oI_eq, eCh_eq, Res.bind_ok, truthD, envT, List.getElem?_cons_succ, List.getElem?_cons_zero, pSl_top u h1, pSl_top d h2, pSum_lst, pGt]
    have ea : asg (.nm 4) (.int (k : Nat)) (envT X Y u d c4) = some (envT X Y u d (some (.int k))) := rfl
    by_cases c : (d.take k).sum < (u.take k).sum
    · refine .inr ⟨⟨k, List.mem_cons_self, c⟩, k, ?_⟩
      rw [decide_eq_true c] at hc
      have hb : bodT (envT X Y u d (some (.int k))) s = .ok (.rt (.tup [.str "top", .int k])) s := by
        unfold bodT
        rw [sIf_yes hc]
        refine sRet_ok ?_
        simp only [eAnd_eq, eOr_eq, eNot_eq, e1_eq, e2_eq, eA_eq, eK_eq, eN_eq, eC_eq, eV_eq, eF_eq, bB_eq, bT_eq, bAnd_eq, bOr_eq, bNot_eq, eT_eq, eL_eq, eIf_eq, eIt_eq, eItA_eq, eM_eq, eSl_eq, oNo_eq, oI_eq, eCh_eq, Res.bind_ok, truthD, envT, List.getElem?_cons_succ, List.getElem?_cons_zero]
      simp only [List.map_cons, forL, ea, hb]
    · rw [decide_eq_false c] at hc
      have hb : bodT (envT X Y u d (some (.int k))) s = .ok (.nx (envT X Y u d (some (.int k)))) s := by
        unfold bodT
        rw [sIf_no hc]
        rfl
      have ih := tops (X := X) (Y := Y) (u := u) (d := d) (s := s) ks (some (.int k)) fun j hj => h j (List.mem_cons_of_mem _ hj)
      simp only [List.map_cons, forL, ea, hb]
      rcases ih with ⟨a, b⟩ | ⟨⟨j, hj, a⟩, b⟩
      · exact .inl ⟨fun j hj => by rcases List.mem_cons.mp hj with rfl | hj; omega; exact a j hj, b⟩
      · exact .inr ⟨⟨j, List.mem_cons_of_mem _ hj, a⟩, b⟩
theorem mean_head {x y : List Int} (hl : y.length = x.length) (hs : x.sum = y.sum) (h1 : 1 ≤ x.length) (h6 : x.length ≤ 6) (s : S) (o : Out) {s' : S}
    (h : (sSeq (sFor (eItA pRng2 (eK (eC (.int 1)) (eK (eA pLen (eK (eV 0) (eN))) (eN)))) (.nm 4) bodT)
      (sSeq (sSet 5 (eV 3))
      (sSeq (sSet 6 (eL true (eN)))
      (sSeq (sWhile 1000000 cndM bodM)
      (sRet (eT (eK (eC (.str "steps")) (eK (eA pTup (eK (eV 6) (eN))) (eN))))))))) (envT (.tup (x.map D.int)) (.tup (y.map D.int)) (dsc x) (dsc y) none) s = .ok o s') :
    B_mean_paper [some (.tup (x.map D.int)), some (.tup (y.map D.int)), none, none, none, none, none, none, none, none, none, none] s = .ok o s' := by
  unfold B_mean_paper
  rw [sSeq_nx (sExpr_ok (d := .non) (s' := s) (by simp only [eAnd_eq, eOr_eq, eNot_eq, e1_eq, e2_eq, eA_eq, eK_eq, eN_eq, eC_eq, eV_eq, eF_eq, bB_eq, bT_eq, bAnd_eq, bOr_eq, bNot_eq, eT_eq, eL_eq, eIf_eq, eIt_eq, eItA_eq, eM_eq, eSl_eq, oNo_eq, oI_eq, eCh_eq, Res.bind_ok, truthD, List.getElem?_cons_succ, List.getElem?_cons_zero, List.length_cons, List.length_nil]; exact check_rows_ok h1 h6 hl s))]
  rw [sSeq_nx ((sIf_no (s' := s) (by simp only [eAnd_eq, eOr_eq, eNot_eq, e1_eq, e2_eq, eA_eq, eK_eq, eN_eq, eC_eq, eV_eq, eF_eq, bB_eq, bT_eq, bAnd_eq, bOr_eq, bNot_eq, eT_eq, eL_eq, eIf_eq, eIt_eq, eItA_eq, eM_eq, eSl_eq, oNo_eq, oI_eq, eCh_eq, Res.bind_ok, truthD, List.getElem?_cons_succ, List.getElem?_cons_zero, pSum_tup, pNe_int, hs]; simp)).trans rfl)]
  rw [sSeq_nx (sAsg_ok (d := .tup [.lst ((dsc x).map D.int), .lst ((dsc y).map D.int)]) (s' := s) (by simp only [eAnd_eq, eOr_eq, eNot_eq, e1_eq, e2_eq, eA_eq, eK_eq, eN_eq, eC_eq, eV_eq, eF_eq, bB_eq, bT_eq, bAnd_eq, bOr_eq, bNot_eq, eT_eq, eL_eq, eIf_eq, eIt_eq, eItA_eq, eM_eq, eSl_eq, oNo_eq, oI_eq, eCh_eq, Res.bind_ok, truthD, List.getElem?_cons_succ, List.getElem?_cons_zero, pSoR_tup]) rfl)]
  exact h
theorem mean_list {x : List Int} (X Y : D) (hX : X = .tup (x.map D.int)) (h6 : x.length ≤ 6) (u d : List Int) (s : S) : (eItA pRng2 (eK (eC (.int 1)) (eK (eA pLen (eK (eV 0) (eN))) (eN)))) (envT X Y u d none) s = .ok (.seq (((List.range (x.length - 1)).map (1 + ·)).map fun k : Nat => D.int k)) s := by
  subst hX
  have := pRng2_nat (b := 1) (n := x.length) (by omega) (by omega) s
  simp only [eAnd_eq, eOr_eq, eNot_eq, e1_eq, e2_eq, eA_eq, eK_eq, eN_eq, eC_eq, eV_eq, eF_eq, bB_eq, bT_eq, bAnd_eq, bOr_eq, bNot_eq, eT_eq, eL_eq, eIf_eq, eIt_eq, eItA_eq, eM_eq, eSl_eq, oNo_eq, oI_eq, eCh_eq, Res.bind_ok, truthD, envT, List.getElem?_cons_succ, List.getElem?_cons_zero, pLen, sqOf, List.length_map]
  rw [List.map_map]
  exact this
theorem top_take {x : List Int} (k : Nat) : ((dsc x).take k).sum = top k x := rfl
theorem mean_ok {x y : List Int} (h : Maj x y) (h1 : 1 ≤ x.length) (h6 : x.length ≤ 6) (s : S) : ∃ st, M_mean_paper [.tup (x.map D.int), .tup (y.map D.int)] s = .ok (.tup [.str "steps", .tup st]) (s ++ [st]) ∧ Rep (dsc y) st (dsc x) := by
  have hlx := dsc_len x
  have hly := dsc_len y
  have hlen := h.len
  rcases tops (X := .tup (x.map D.int)) (Y := .tup (y.map D.int)) (u := dsc x) (d := dsc y) (s := s) ((List.range (x.length - 1)).map (1 + ·)) none (fun k hk => by
    obtain ⟨j, hj, rfl⟩ := List.mem_map.mp hk
    have := List.mem_range.mp hj
    omega) with ⟨_, c, e⟩ | ⟨⟨k, hk, a⟩, _⟩
  · obtain ⟨st, a, b, c', g1, g2⟩ := loop_ok (X := .tup (x.map D.int)) (Y := .tup (y.map D.int)) (u := dsc x) (d := dsc y) (c4 := c) (s := s) (by omega) 6 1000000 (dsc y) [] none none none (lev_of h) (by have := mis_le (dsc x) (dsc y); omega) (by omega) (by simp)
    refine ⟨st, ?_, g2⟩
    unfold M_mean_paper
    refine runD_rt (mean_head hlen.symm h.sum h1 h6 s _ ?_)
    rw [sSeq_nx ((sFor_seq (mean_list _ _ rfl h6 _ _ s)).trans e)]
    rw [sSeq_nx (sSet_ok (d := .lst ((dsc y).map D.int)) (s' := s) (by simp only [eV_eq, envT, List.getElem?_cons_succ, List.getElem?_cons_zero]))]
    rw [sSeq_nx (sSet_ok (d := .ref s.length) (s' := s ++ [[]]) (by simp only [eL_eq, eN_eq, Res.bind_ok, mkL_true]))]
    refine (sSeq_nx g1).trans ?_
    refine sRet_ok ?_
    simp only [eAnd_eq, eOr_eq, eNot_eq, e1_eq, e2_eq, eA_eq, eK_eq, eN_eq, eC_eq, eV_eq, eF_eq, bB_eq, bT_eq, bAnd_eq, bOr_eq, bNot_eq, eT_eq, eL_eq, eIf_eq, eIt_eq, eItA_eq, eM_eq, eSl_eq, oNo_eq, oI_eq, eCh_eq, Res.bind_ok, truthD, envM, List.getElem?_cons_succ, List.getElem?_cons_zero, pTup, lsq, List.nil_append]
    simp
  · exfalso
    obtain ⟨j, hj, rfl⟩ := List.mem_map.mp hk
    have hj' := List.mem_range.mp hj
    have := h.top (1 + j) (by omega)
    unfold top at this
    omega
theorem mean_top {x y : List Int} (hl : y.length = x.length) (hs : x.sum = y.sum) (h1 : 1 ≤ x.length) (h6 : x.length ≤ 6) {k0 : Nat} (hk0 : k0 < x.length) (hv : top k0 y < top k0 x) (s : S) : ∃ k : Nat, M_mean_paper [.tup (x.map D.int), .tup (y.map D.int)] s = .ok (.tup [.str "top", .int k]) s := by
  have hlx := dsc_len x
  have hly := dsc_len y
  have hz : k0 ≠ 0 := fun e => by subst e; simp [top] at hv
  rcases tops (X := .tup (x.map D.int)) (Y := .tup (y.map D.int)) (u := dsc x) (d := dsc y) (s := s) ((List.range (x.length - 1)).map (1 + ·)) none (fun k hk => by
    obtain ⟨j, hj, rfl⟩ := List.mem_map.mp hk
    have := List.mem_range.mp hj
    omega) with ⟨a, _⟩ | ⟨_, k, e⟩
  · exfalso
    have := a k0 (List.mem_map.mpr ⟨k0 - 1, List.mem_range.mpr (by omega), by omega⟩)
    unfold top at hv
    omega
  · refine ⟨k, ?_⟩
    unfold M_mean_paper
    refine runD_rt (mean_head hl hs h1 h6 s _ ?_)
    rw [sSeq_rt ((sFor_seq (mean_list _ _ rfl h6 _ _ s)).trans e)]
/-! ### takes_mean -/
theorem rep_len {r u : List Int} {st : List D} (h : Rep r st u) : u.length = r.length := by
  induction h with
  | nil => rfl
  | cons _ _ _ _ _ ih => rw [ih, mv_len]
theorem rep_data {r u : List Int} {st : List D} (h : Rep r st u) (s : S) : ∃ ps, toPs s 4 st = some ps ∧ PyData.canLayAll0 ps = true ∧ PyData.depthAll ps ≤ 1 := by
  induction h with
  | nil => exact ⟨[], by simp [toPs], by simp [PyData.canLayAll0], by simp [PyData.depthAll]⟩
  | @cons r u st h l z _ _ _ _ _ ih =>
    obtain ⟨ps, e1, e2, e3⟩ := ih
    refine ⟨.tuple [.int h, .int l, .int z] :: ps, ?_, ?_, ?_⟩
    · simp [toPs, toP, e1]
    · simp [PyData.canLayAll0, PyData.canLay0, e2]
    · simp only [PyData.depthAll, PyData.depth]
      omega
theorem pEq_sum {r u : List Int} {st : List D} (h : Rep r st u) (s : S) : pEq (.tup [.str "steps", .tup st]) (.tup [.str "sum"]) s = .ok (.bl false) s := by
  obtain ⟨ps, e1, e2, e3⟩ := rep_data h s
  have hs : SeqAt.shaped (.tuple [.str "steps", .tuple ps]) = true := by
    have a1 : PyData.canLay0 (.str "steps") = true := by decide +kernel
    have a2 : PyData.depth (.tuple [.str "steps", .tuple ps]) ≤ 64 := by simp only [PyData.depth, PyData.depthAll]; omega
    unfold SeqAt.shaped
    rw [decide_eq_true a2]
    simp [PyData.canLay0, PyData.canLayAll0, e2] at a1 ⊢
    exact a1
  have hs2 : SeqAt.shaped (.tuple [.str "sum"]) = true := by decide +kernel
  have t1 : toP s 6 (.tup [.str "steps", .tup st]) = some (.tuple [.str "steps", .tuple ps]) := by simp [toP, toPs, e1]
  have t2 : toP s 6 (.tup [.str "sum"]) = some (.tuple [.str "sum"]) := by simp [toP, toPs]
  have n : PyData.eqv (.tuple [.str "steps", .tuple ps]) (.tuple [.str "sum"]) = false := by
    simp only [PyData.eqv, PyData.eqvAll]
    rfl
  simp only [pEq, eqP, t1, t2, hs, hs2, n, and_self, if_true]
theorem eqP_str (a b : Str) (s : S) (ha : PyData.strOk a = true) (hb : PyData.strOk b = true) : eqP (.str a) (.str b) s = some (a == b) := by
  simp [eqP, toP, SeqAt.shaped, PyData.canLay0, PyData.depth, PyData.eqv, ha, hb]
theorem pEq_st (s : S) : pEq (.str "steps") (.str "top") s = .ok (.bl false) s := by
  unfold pEq
  rw [eqP_str _ _ s (by decide +kernel) (by decide +kernel)]
  rfl
theorem pNe_ss (s : S) : pNe (.str "steps") (.str "steps") s = .ok (.bl false) s := by
  unfold pNe
  rw [eqP_str _ _ s (by decide +kernel) (by decide +kernel)]
  rfl
theorem pNe_ts (s : S) : pNe (.str "top") (.str "steps") s = .ok (.bl true) s := by
  unfold pNe
  rw [eqP_str _ _ s (by decide +kernel) (by decide +kernel)]
  rfl
theorem pIx_zero (d : D) (ds : List D) (s : S) : pIx (.tup (d :: ds)) (.int 0) s = .ok d s := by
  have e : atI (d :: ds) 0 = some d := by
    unfold atI ixN
    rw [if_pos (by omega), if_pos (by simp only [List.length_cons]; omega)]
    rfl
  simp only [pIx, sqOf, e]
theorem pIx_one (a b : D) (ds : List D) (s : S) : pIx (.tup (a :: b :: ds)) (.int 1) s = .ok b s := by
  have e : atI (a :: b :: ds) 1 = some b := by
    unfold atI ixN
    rw [if_pos (by omega), if_pos (by simp only [List.length_cons]; omega)]
    rfl
  simp only [pIx, sqOf, e]
def envR (X Y P : D) (u d r : List Int) (c6 c7 c8 c9 : Option D) : En := [some X, some Y, some P, some (.lst (u.map D.int)), some (.lst (d.map D.int)), some (.lst (r.map D.int)), c6, c7, c8, c9, none, none]
def bodR : Es := (sSeq (sIf (bOr (bNot (bT (e1 (pIsi "tuple") (eV 6)))) (bOr (bB (e2 pNe (eA pLen (eK (eV 6) (eN))) (eC (.int 3)))) (bT (eA pAny (eK (eLc false (eIt itSq (eV 6)) [10] (.nm 10) bYes (eNot (eF 1 M_is_integer (eK (eV 10) (eN))))) (eN)))))) (sRet (eC (.bl false))) (sNil))
  (sSeq (sAsg (.tp [.nm 7, .nm 8, .nm 9]) (eV 6))
  (sSeq (sIf (bOr (bNot (bB (eCh pLe pLt (eC (.int 0)) (eV 7) (eA pLen (eK (eV 5) (eN)))))) (bOr (bNot (bB (eCh pLe pLt (eC (.int 0)) (eV 8) (eA pLen (eK (eV 5) (eN)))))) (bNot (bB (eCh pLe pLe (eC (.int 0)) (eV 9) (e2 pSub (e2 pIx (eV 5) (eV 7)) (e2 pIx (eV 5) (eV 8)))))))) (sRet (eC (.bl false))) (sNil))
  (sSet 5 (eLc false (eItA pEnum (eK (eV 5) (eN))) [11, 10] (.tp [.nm 11, .nm 10]) bYes (eIf (bB (e2 pEq (eV 11) (eV 7))) (e2 pSub (eV 10) (eV 9)) (eIf (bB (e2 pEq (eV 11) (eV 8))) (e2 (pAdd false) (eV 10) (eV 9)) (eV 10))))))))
theorem rep_g5 {X Y P : D} {u d r : List Int} {c6 : Option D} {s : S} {hh ll : Nat} {z : Int} (hr : r.length ≤ 6) :
    (eLc false (eItA pEnum (eK (eV 5) (eN))) [11, 10] (.tp [.nm 11, .nm 10]) bYes (eIf (bB (e2 pEq (eV 11) (eV 7))) (e2 pSub (eV 10) (eV 9)) (eIf (bB (e2 pEq (eV 11) (eV 8))) (e2 (pAdd false) (eV 10) (eV 9)) (eV 10)))) (envR X Y P u d r c6 (some (.int hh)) (some (.int ll)) (some (.int z))) s = .ok (.lst ((mv r hh ll z).map D.int)) s :=
  enum_map (xs := r) (g := fun i x => if i = hh then x - z else if i = ll then x + z else x) (by simp [eAnd_eq, eOr_eq, eNot_eq, e1_eq, e2_eq, eA_eq, eK_eq, eN_eq, eC_eq, eV_eq, eF_eq, bB_eq, bT_eq, bAnd_eq, bOr_eq, bNot_eq, eT_eq, eL_eq, eIf_eq, eIt_eq, eItA_eq, eM_eq, eSl_eq, oNo_eq, oI_eq, eCh_eq, Res.bind_ok, truthD, envR, pEnum]) (by omega) fun i x hi => by
    refine ⟨_, rfl, ?_⟩
    have k1 : ((i : Int) = hh) = (i = hh) := propext (by omega)
    have k2 : ((i : Int) = ll) = (i = ll) := propext (by omega)
    simp only [eAnd_eq, eOr_eq, eNot_eq, e1_eq, e2_eq, eA_eq, eK_eq, eN_eq, eC_eq, eV_eq, eF_eq, bB_eq, bT_eq, bAnd_eq, bOr_eq, bNot_eq, eT_eq, eL_eq, eIf_eq, eIt_eq, eItA_eq, eM_eq, eSl_eq, oNo_eq, oI_eq, eCh_eq, Res.bind_ok, truthD, envR, wipeE, pEq_int, List.set_cons_succ, List.set_cons_zero, List.getElem?_cons_succ, List.getElem?_cons_zero, k1, k2]
    by_cases c1 : i = hh
    · simp [c1, pSub]
    · by_cases c2 : i = ll
      · subst c2
        rw [if_neg c1, if_pos rfl]
        simp [c1, pAdd]
      · simp [c1, c2]
theorem bodR_ok {X Y P : D} {u d r : List Int} {c7 c8 c9 : Option D} {s : S} {hh ll : Nat} {z : Int} (hr : r.length ≤ 6) (f1 : hh < r.length) (f2 : ll < r.length) (f3 : 0 ≤ z) (f4 : z ≤ r.getD hh 0 - r.getD ll 0) :
    bodR (envR X Y P u d r (some (.tup [.int hh, .int ll, .int z])) c7 c8 c9) s = .ok (.nx (envR X Y P u d (mv r hh ll z) (some (.tup [.int hh, .int ll, .int z])) (some (.int hh)) (some (.int ll)) (some (.int z)))) s := by
  unfold bodR
  have ha := any_ints [(hh : Int), (ll : Int), z] s 10 0 (eIt itSq (eV 6)) (envR X Y P u d r (some (.tup [.int hh, .int ll, .int z])) c7 c8 c9) rfl (by simp [envR]) (show 3 ≤ sizeLine by decide)
  have c1 : (bOr (bNot (bT (e1 (pIsi "tuple") (eV 6)))) (bOr (bB (e2 pNe (eA pLen (eK (eV 6) (eN))) (eC (.int 3)))) (bT (eA pAny (eK (eLc false (eIt itSq (eV 6)) [10] (.nm 10) bYes (eNot (eF 1 M_is_integer (eK (eV 10) (eN))))) (eN)))))) (envR X Y P u d r (some (.tup [.int hh, .int ll, .int z])) c7 c8 c9) s = .ok false s := by
    have b1 : bT (e1 (pIsi "tuple") (eV 6)) (envR X Y P u d r (some (.tup [.int hh, .int ll, .int z])) c7 c8 c9) s = .ok true s := by
      simp only [bT_eq, e1_eq, eV_eq, envR, List.getElem?_cons_succ, List.getElem?_cons_zero, Res.bind_ok, isi_tup, truthD]
    have b2 : bB (e2 pNe (eA pLen (eK (eV 6) (eN))) (eC (.int 3))) (envR X Y P u d r (some (.tup [.int hh, .int ll, .int z])) c7 c8 c9) s = .ok false s := by
      simp only [bB_eq, e2_eq, eA_eq, eK_eq, eN_eq, eC_eq, eV_eq, envR, List.getElem?_cons_succ, List.getElem?_cons_zero, Res.bind_ok, pLen, sqOf, pNe_int, List.length_cons, List.length_nil]
      rfl
    rw [bOr_eq, bNot_eq, b1]
    simp only [Res.bind_ok, Bool.not_true, Bool.false_eq_true, if_false]
    rw [bOr_eq, b2]
    simp only [Res.bind_ok, Bool.false_eq_true, if_false]
    rw [bT_eq, ha]
    rfl
  rw [sSeq_nx ((sIf_no c1).trans (sNil_eq _ _))]
  rw [sSeq_nx (sAsg_ok (d := .tup [.int hh, .int ll, .int z]) (s' := s) (e' := envR X Y P u d r (some (.tup [.int hh, .int ll, .int z])) (some (.int hh)) (some (.int ll)) (some (.int z))) (by simp only [eV_eq, envR, List.getElem?_cons_succ, List.getElem?_cons_zero]) rfl)]
  have k : ∀ i : Nat, i < r.length → decide ((0 : Int) ≤ i) = true ∧ decide ((i : Int) < r.length) = true := fun i hi => ⟨decide_eq_true (by omega), decide_eq_true (by omega)⟩
  rw [sSeq_nx ((sIf_no (s' := s) (by
    simp only [eAnd_eq, eOr_eq, eNot_eq, e1_eq, e2_eq, eA_eq, eK_eq, eN_eq, eC_eq, eV_eq, eF_eq, bB_eq, bT_eq, bAnd_eq, bOr_eq, bNot_eq, eT_eq, eL_eq, eIf_eq, eIt_eq, eItA_eq, eM_eq, eSl_eq, oNo_eq, oI_eq, eCh_eq, Res.bind_ok, truthD, envR, List.getElem?_cons_succ, List.getElem?_cons_zero, pLe, pLt, pLen, sqOf, lsq, List.length_map, (k hh f1).1, (k hh f1).2, (k ll f2).1, (k ll f2).2, pIx_nat _ f1, pIx_nat _ f2, pSub, decide_eq_true f3, decide_eq_true f4, Bool.not_true, Bool.false_eq_true, if_false])).trans (sNil_eq _ _))]
  rw [sSet_ok (rep_g5 hr)]
  rfl
theorem repL {X Y P : D} {u d : List Int} {s : S} {r v : List Int} {st : List D} (h : Rep r st v) : ∀ (c6 c7 c8 c9 : Option D), r.length ≤ 6 → ∃ a b c e, forL (.nm 6) bodR st (envR X Y P u d r c6 c7 c8 c9) s = .ok (.nx (envR X Y P u d v a b c e)) s := by
  induction h with
  | nil r => exact fun c6 c7 c8 c9 _ => ⟨c6, c7, c8, c9, rfl⟩
  | @cons r v st hh ll z f1 f2 f3 f4 _ ih =>
    intro c6 c7 c8 c9 hr
    obtain ⟨a, b, c, e, g⟩ := ih (some (.tup [.int hh, .int ll, .int z])) (some (.int hh)) (some (.int ll)) (some (.int z)) (by simpa using hr)
    refine ⟨a, b, c, e, ?_⟩
    have ea : asg (.nm 6) (.tup [.int (hh : Nat), .int (ll : Nat), .int z]) (envR X Y P u d r c6 c7 c8 c9) = some (envR X Y P u d r (some (.tup [.int hh, .int ll, .int z])) c7 c8 c9) := rfl
    rw [forL_nx ea (bodR_ok hr f1 f2 f3 f4), g]
theorem takes_ok {x y : List Int} {st : List D} (hl : y.length = x.length) (h1 : 1 ≤ x.length) (h6 : x.length ≤ 6) (hr : Rep (dsc y) st (dsc x)) (s : S) : M_takes_mean [.tup (x.map D.int), .tup (y.map D.int), .tup [.str "steps", .tup st]] s = .ok (.bl true) s := by
  have hly := dsc_len y
  unfold M_takes_mean
  refine runD_rt ?_
  show B_takes_mean [some (.tup (x.map D.int)), some (.tup (y.map D.int)), some (.tup [.str "steps", .tup st]), none, none, none, none, none, none, none, none, none] s = _
  unfold B_takes_mean
  rw [sSeq_nx (sExpr_ok (d := .non) (s' := s) (by simp only [eAnd_eq, eOr_eq, eNot_eq, e1_eq, e2_eq, eA_eq, eK_eq, eN_eq, eC_eq, eV_eq, eF_eq, bB_eq, bT_eq, bAnd_eq, bOr_eq, bNot_eq, eT_eq, eL_eq, eIf_eq, eIt_eq, eItA_eq, eM_eq, eSl_eq, oNo_eq, oI_eq, eCh_eq, Res.bind_ok, truthD, List.getElem?_cons_succ, List.getElem?_cons_zero, List.length_cons, List.length_nil]; exact check_rows_ok h1 h6 hl s))]
  rw [sSeq_nx ((sIf_no (s' := s) (by simp only [eAnd_eq, eOr_eq, eNot_eq, e1_eq, e2_eq, eA_eq, eK_eq, eN_eq, eC_eq, eV_eq, eF_eq, bB_eq, bT_eq, bAnd_eq, bOr_eq, bNot_eq, eT_eq, eL_eq, eIf_eq, eIt_eq, eItA_eq, eM_eq, eSl_eq, oNo_eq, oI_eq, eCh_eq, Res.bind_ok, truthD, List.getElem?_cons_succ, List.getElem?_cons_zero, pEq_sum hr])).trans (sNil_eq _ _))]
  rw [sSeq_nx ((sIf_no (s' := s) (by
    simp only [eAnd_eq, eOr_eq, eNot_eq, e1_eq, e2_eq, eA_eq, eK_eq, eN_eq, eC_eq, eV_eq, eF_eq, bB_eq, bT_eq, bAnd_eq, bOr_eq, bNot_eq, eT_eq, eL_eq, eIf_eq, eIt_eq, eItA_eq, eM_eq, eSl_eq, oNo_eq, oI_eq, eCh_eq, Res.bind_ok, truthD, List.getElem?_cons_succ, List.getElem?_cons_zero, isi_tup, pLen, sqOf, List.length_cons, List.length_nil, pNe_int, Bool.not_true, Bool.false_eq_true, if_false]
    rfl)).trans (sNil_eq _ _))]
  rw [sSeq_nx (e' := [some (.tup (x.map D.int)), some (.tup (y.map D.int)), some (.tup [.str "steps", .tup st]), some (.lst ((dsc x).map D.int)), some (.lst ((dsc y).map D.int)), none, none, none, none, none, none, none]) (s' := s) (by
    unfold sPar
    rw [sB_eq]
    simp only [eAnd_eq, eOr_eq, eNot_eq, e1_eq, e2_eq, eA_eq, eK_eq, eN_eq, eC_eq, eV_eq, eF_eq, bB_eq, bT_eq, bAnd_eq, bOr_eq, bNot_eq, eT_eq, eL_eq, eIf_eq, eIt_eq, eItA_eq, eM_eq, eSl_eq, oNo_eq, oI_eq, eCh_eq, Res.bind_ok, truthD, List.getElem?_cons_succ, List.getElem?_cons_zero, pSoR_tup, List.set_cons_succ, List.set_cons_zero])]
  rw [sSeq_nx ((sIf_no (s' := s) (by simp only [eAnd_eq, eOr_eq, eNot_eq, e1_eq, e2_eq, eA_eq, eK_eq, eN_eq, eC_eq, eV_eq, eF_eq, bB_eq, bT_eq, bAnd_eq, bOr_eq, bNot_eq, eT_eq, eL_eq, eIf_eq, eIt_eq, eItA_eq, eM_eq, eSl_eq, oNo_eq, oI_eq, eCh_eq, Res.bind_ok, truthD, List.getElem?_cons_succ, List.getElem?_cons_zero, pIx_zero, pEq_st])).trans (sNil_eq _ _))]
  rw [sSeq_nx ((sIf_no (s' := s) (by simp only [eAnd_eq, eOr_eq, eNot_eq, e1_eq, e2_eq, eA_eq, eK_eq, eN_eq, eC_eq, eV_eq, eF_eq, bB_eq, bT_eq, bAnd_eq, bOr_eq, bNot_eq, eT_eq, eL_eq, eIf_eq, eIt_eq, eItA_eq, eM_eq, eSl_eq, oNo_eq, oI_eq, eCh_eq, Res.bind_ok, truthD, List.getElem?_cons_succ, List.getElem?_cons_zero, pIx_zero, pIx_one, isi_tup, pNe_ss, Bool.not_true, Bool.false_eq_true, if_false])).trans (sNil_eq _ _))]
  rw [sSeq_nx (sSet_ok (d := .lst ((dsc y).map D.int)) (s' := s) (by simp only [eV_eq, List.getElem?_cons_succ, List.getElem?_cons_zero]))]
  obtain ⟨a, b, c, e, g⟩ := repL (X := .tup (x.map D.int)) (Y := .tup (y.map D.int)) (P := .tup [.str "steps", .tup st]) (u := dsc x) (d := dsc y) (s := s) hr none none none none (by omega)
  refine (sSeq_nx ((sFor_seq (xs := st) (s' := s) (by simp only [eAnd_eq, eOr_eq, eNot_eq, e1_eq, e2_eq, eA_eq, eK_eq, eN_eq, eC_eq, eV_eq, eF_eq, bB_eq, bT_eq, bAnd_eq, bOr_eq, bNot_eq, eT_eq, eL_eq, eIf_eq, eIt_eq, eItA_eq, eM_eq, eSl_eq, oNo_eq, oI_eq, eCh_eq, Res.bind_ok, truthD, envR, List.getElem?_cons_succ, List.getElem?_cons_zero, pIx_one, itSq])).trans g)).trans ?_
  refine sRet_ok ?_
  simp only [eAnd_eq, eOr_eq, eNot_eq, e1_eq, e2_eq, eA_eq, eK_eq, eN_eq, eC_eq, eV_eq, eF_eq, bB_eq, bT_eq, bAnd_eq, bOr_eq, bNot_eq, eT_eq, eL_eq, eIf_eq, eIt_eq, eItA_eq, eM_eq, eSl_eq, oNo_eq, oI_eq, eCh_eq, Res.bind_ok, truthD, envR, List.getElem?_cons_succ, List.getElem?_cons_zero, pSo, srtB, sqOf, lsq, intsD_map, Bool.false_eq_true, if_false, mkL_false, pEq_lst]
  simp
end K54

set_option linter.all false
set_option maxRecDepth 100000
set_option maxHeartbeats 1000000
/-! k54: orders_paper. Plain Lean. -/
namespace K54
open PySem L2 Cf
def rowI (n : Nat) (f : Nat → Int) : List Int := (List.range n).map f
theorem rowI_len (n : Nat) (f : Nat → Int) : (rowI n f).length = n := by simp [rowI]
theorem rowI_get {n : Nat} {f : Nat → Int} {j : Nat} (h : j < n) : (rowI n f).getD j 0 = f j := by simp [rowI, List.getD, h]
theorem rowI_sum (n : Nat) (f : Nat → Int) : (rowI n f).sum = sg f n := sg_list f n
def tabT (n : Nat) (a : Nat → Nat → Int) : List D := (List.range n).map fun i => D.tup ((rowI n (a i)).map D.int)
theorem tabT_len (n : Nat) (a : Nat → Nat → Int) : (tabT n a).length = n := by simp [tabT]
theorem tabT_get {n : Nat} {a : Nat → Nat → Int} {i : Nat} (h : i < (tabT n a).length) : (tabT n a)[i] = D.tup ((rowI n (a i)).map D.int) := by simp [tabT]
theorem tabT_mem {n : Nat} {a : Nat → Nat → Int} {d : D} (h : d ∈ tabT n a) : ∃ i, i < n ∧ d = D.tup ((rowI n (a i)).map D.int) := by
  obtain ⟨i, hi, rfl⟩ := List.mem_map.mp h
  exact ⟨i, List.mem_range.mp hi, rfl⟩
/-- rows in the store -/
def mat (n : Nat) (a : Nat → Nat → Int) : S := (List.range n).map fun i => (rowI n (a i)).map D.int
theorem mat_len (n : Nat) (a : Nat → Nat → Int) : (mat n a).length = n := by simp [mat]
theorem mat_get {n : Nat} {a : Nat → Nat → Int} {i : Nat} (h : i < n) : (mat n a)[i]? = some ((rowI n (a i)).map D.int) := by simp [mat, h]
theorem st_get {n : Nat} {a : Nat → Nat → Int} {i : Nat} (h : i < n) (s0 t : S) : (s0 ++ mat n a ++ t)[s0.length + i]? = some ((rowI n (a i)).map D.int) := by
  rw [List.append_assoc, List.getElem?_append_right (by omega), Nat.add_sub_cancel_left, List.getElem?_append_left (by rw [mat_len]; exact h), mat_get h]
def upd2 (a : Nat → Nat → Int) (i j : Nat) (v : Int) : Nat → Nat → Int := fun x y => if x = i ∧ y = j then v else a x y
theorem row_set {n : Nat} {f : Nat → Int} {j : Nat} {v : Int} : ((rowI n f).map D.int).set j (.int v) = (rowI n fun y => if y = j then v else f y).map D.int := by
  refine List.ext_getElem (by simp [rowI]) fun k h1 h2 => ?_
  rw [List.getElem_set]
  by_cases e : j = k
  · subst e; simp [rowI]
  · have e2 : ¬ k = j := fun c => e c.symm
    simp [rowI, e, e2]
theorem mat_congr {n : Nat} {a b : Nat → Nat → Int} (h : ∀ i j, i < n → j < n → a i j = b i j) : mat n a = mat n b := by
  unfold mat
  refine List.map_congr_left fun i hi => ?_
  congr 1
  exact List.map_congr_left fun j hj => h i j (List.mem_range.mp hi) (List.mem_range.mp hj)
theorem tabT_congr {n : Nat} {a b : Nat → Nat → Int} (h : ∀ i j, i < n → j < n → a i j = b i j) : tabT n a = tabT n b := by
  unfold tabT
  refine List.map_congr_left fun i hi => ?_
  congr 2
  exact List.map_congr_left fun j hj => h i j (List.mem_range.mp hi) (List.mem_range.mp hj)
theorem st_set {n : Nat} {a : Nat → Nat → Int} {i j : Nat} {v : Int} (h : i < n) (s0 t : S) : (s0 ++ mat n a ++ t).set (s0.length + i) (((rowI n (a i)).map D.int).set j (.int v)) = s0 ++ mat n (upd2 a i j v) ++ t := by
  rw [List.append_assoc, List.set_append_right _ _ (by omega), Nat.add_sub_cancel_left, List.set_append_left _ _ (by rw [mat_len]; exact h), ← List.append_assoc]
  congr 2
  refine List.ext_getElem (by simp [mat]) fun k h1 h2 => ?_
  rw [List.getElem_set]
  by_cases e : i = k
  · subst e
    rw [if_pos rfl, row_set]
    simp only [mat, List.getElem_map, List.getElem_range]
    congr 1
    refine List.map_congr_left fun y _ => ?_
    simp [upd2]
  · rw [if_neg e]
    simp only [mat, List.getElem_map, List.getElem_range]
    congr 1
    refine List.map_congr_left fun y _ => ?_
    have e2 : ¬ k = i := fun c => e c.symm
    simp [upd2, e2]
def refs (b n : Nat) : List D := (List.range n).map fun i => D.ref (b + i)
theorem refs_len (b n : Nat) : (refs b n).length = n := by simp [refs]
theorem pIx_at {ds : List D} {i : Nat} {d : D} (h : ds[i]? = some d) (s : S) : pIx (.lst ds) (.int i) s = .ok d s := by
  have hi : i < ds.length := (List.getElem?_eq_some_iff.mp h).1
  have e : atI ds (i : Int) = some d := by
    unfold atI ixN
    rw [if_pos (by omega), if_pos (by omega)]
    simpa using h
  simp only [pIx, sqOf, lsq, e]
theorem pIx_atT {ds : List D} {i : Nat} {d : D} (h : ds[i]? = some d) (s : S) : pIx (.tup ds) (.int i) s = .ok d s := by
  have hi : i < ds.length := (List.getElem?_eq_some_iff.mp h).1
  have e : atI ds (i : Int) = some d := by
    unfold atI ixN
    rw [if_pos (by omega), if_pos (by omega)]
    simpa using h
  simp only [pIx, sqOf, e]
theorem pIx_refs {b n i : Nat} (h : i < n) (s : S) : pIx (.lst (refs b n)) (.int i) s = .ok (.ref (b + i)) s := pIx_at (by simp [refs, h]) s
theorem pIx_row {n : Nat} {f : Nat → Int} {k j : Nat} {s : S} (hs : s[k]? = some ((rowI n f).map D.int)) (h : j < n) : pIx (.ref k) (.int j) s = .ok (.int (f j)) s := by
  have e : atI ((rowI n f).map D.int) (j : Int) = some (.int (f j)) := by
    unfold atI ixN
    rw [if_pos (by omega), if_pos (by simp [rowI]; omega)]
    simp [rowI, h]
  simp only [pIx, sqOf, lsq, hs, e]
/-! ### check_table, sums_fault -/
theorem any_falses {α : Type} (l : List α) (s : S) : pAny [.lst (l.map fun _ => D.bl false)] s = .ok (.bl false) s := by
  simp only [pAny, lsq, boolsD_map (fun _ => false)]
  simp
theorem check_table_ok {n : Nat} {a : Nat → Nat → Int} (h1 : 1 ≤ n) (h6 : n ≤ 6) (ha : ∀ i j, i < n → j < n → 0 ≤ a i j ∧ a i j ≤ 60) (s : S) : M_check_table [.tup (tabT n a)] s = .ok .non s := by
  unfold M_check_table
  obtain ⟨e', s', q, hI⟩ := forL_all (t := .nm 1) (g := (sSeq (sIf (bOr (bNot (bT (e1 (pIsi "tuple") (eV 1)))) (bB (e2 pNe (eA pLen (eK (eV 1) (eN))) (eA pLen (eK (eV 0) (eN)))))) (sBad) (sNil))
    (sIf (bT (eA pAny (eK (eLc false (eIt itSq (eV 1)) [2] (.nm 2) bYes (eOr (eNot (eF 1 M_is_integer (eK (eV 2) (eN)))) (eNot (eCh pLe pLe (eC (.int 0)) (eV 2) (eC (.int 60)))))) (eN)))) (sBad) (sNil))))
    (ds := tabT n a) (I := fun _ e s' => (∃ c, e = [some (.tup (tabT n a)), c, none]) ∧ s' = s) (e := [some (.tup (tabT n a)), none, none]) (s := s) (fun k hk e s' => by
      rintro ⟨⟨c, rfl⟩, rfl⟩
      have hk' : k < n := by rwa [tabT_len] at hk
      refine ⟨_, [some (.tup (tabT n a)), some (.tup ((rowI n (a k)).map D.int)), none], s', rfl, ?_, ⟨_, rfl⟩, rfl⟩
      show sSeq _ _ [some (.tup (tabT n a)), some (tabT n a)[k], none] s' = _
      rw [tabT_get]
      rw [sSeq_nx ((sIf_no (s' := s') (by
        simp only [eAnd_eq, eOr_eq, eNot_eq, e1_eq, e2_eq, eA_eq, eK_eq, eN_eq, eC_eq, eV_eq, eF_eq, bB_eq, bT_eq, bAnd_eq, bOr_eq, bNot_eq, eT_eq, eL_eq, eIf_eq, eIt_eq, eItA_eq, eM_eq, eSl_eq, oNo_eq, oI_eq, eCh_eq, Res.bind_ok, truthD, List.getElem?_cons_succ, List.getElem?_cons_zero, isi_tup, pLen, sqOf, List.length_map, rowI_len, tabT_len, pNe_int, Bool.not_true, Bool.false_eq_true, if_false]
        simp)).trans (sNil_eq _ _))]
      refine (sIf_no (s' := s') ?_).trans (sNil_eq _ _)
      have hl : (eLc false (eIt itSq (eV 1)) [2] (.nm 2) bYes (eOr (eNot (eF 1 M_is_integer (eK (eV 2) (eN)))) (eNot (eCh pLe pLe (eC (.int 0)) (eV 2) (eC (.int 60)))))) [some (.tup (tabT n a)), some (.tup ((rowI n (a k)).map D.int)), none] s' = .ok (.lst ((rowI n (a k)).map fun _ => D.bl false)) s' := by
        rw [eLc_map (xs := (rowI n (a k)).map D.int) (F := fun _ => .bl false) rfl (by simp [rowI]; exact Nat.le_trans h6 (by decide)) fun d hd => by
          obtain ⟨x, hx, rfl⟩ := List.mem_map.mp hd
          obtain ⟨j, hj, rfl⟩ := List.mem_map.mp hx
          obtain ⟨b1, b2⟩ := ha k j hk' (List.mem_range.mp hj)
          refine ⟨_, rfl, ?_⟩
          simp only [eAnd_eq, eOr_eq, eNot_eq, e1_eq, e2_eq, eA_eq, eK_eq, eN_eq, eC_eq, eV_eq, eF_eq, bB_eq, bT_eq, bAnd_eq, bOr_eq, bNot_eq, eT_eq, eL_eq, eIf_eq, eIt_eq, eItA_eq, eM_eq, eSl_eq, oNo_eq, oI_eq, eCh_eq, Res.bind_ok, truthD, wipeE, List.set_cons_succ, List.set_cons_zero, List.getElem?_cons_succ, List.getElem?_cons_zero, List.length_cons, List.length_nil, if_true, is_integer_int, pLe, decide_eq_true b1, decide_eq_true b2, Bool.not_true, Bool.false_eq_true, if_false]]
        rw [List.map_map]
        rfl
      rw [bT_eq, eA_eq, eK_eq, hl]
      simp only [Res.bind_ok, eN_eq, any_falses, truthD]) ⟨⟨none, rfl⟩, rfl⟩
  obtain ⟨⟨c, rfl⟩, rfl⟩ := hI
  refine runD_nx (e := [some (.tup (tabT n a)), c, none]) ?_
  show B_check_table [some (.tup (tabT n a)), none, none] s' = _
  unfold B_check_table
  rw [sSeq_nx ((sIf_no (s' := s') (by
    have b1 : (1 : Int) ≤ n := by omega
    have b2 : (n : Int) ≤ 6 := by omega
    simp only [eAnd_eq, eOr_eq, eNot_eq, e1_eq, e2_eq, eA_eq, eK_eq, eN_eq, eC_eq, eV_eq, eF_eq, bB_eq, bT_eq, bAnd_eq, bOr_eq, bNot_eq, eT_eq, eL_eq, eIf_eq, eIt_eq, eItA_eq, eM_eq, eSl_eq, oNo_eq, oI_eq, eCh_eq, Res.bind_ok, truthD, List.getElem?_cons_succ, List.getElem?_cons_zero, isi_tup, pLen, sqOf, tabT_len, pLe, decide_eq_true b1, decide_eq_true b2, Bool.not_true, Bool.false_eq_true, if_false])).trans (sNil_eq _ _))]
  rw [sFor_seq (xs := tabT n a) (s' := s') rfl]
  exact q
theorem sums_ok {n : Nat} {m : Int} {a : Nat → Nat → Int} (h1 : 1 ≤ n) (h6 : n ≤ 6) (ha : Eqs n m a) (s : S) : M_sums_fault [.tup (tabT n a)] s = .ok .non s := by
  obtain ⟨e1', s1, q1, hI1⟩ := forL_all (t := .tp [.nm 2, .nm 3]) (g := (sIf (bB (e2 pNe (eA pSum (eK (eV 3) (eN))) (eV 1))) (sRet (eT (eK (eC (.str "row")) (eK (eV 2) (eN))))) (sNil)))
    (ds := (List.range (tabT n a).length).zipWith (fun (i : Nat) d => D.tup [.int (i : Int), d]) (tabT n a)) (I := fun _ e s' => (∃ c d, e = [some (.tup (tabT n a)), some (.int m), c, d]) ∧ s' = s) (e := [some (.tup (tabT n a)), some (.int m), none, none]) (s := s) (fun k hk e s' => by
      rintro ⟨⟨c, d, rfl⟩, rfl⟩
      have hk' : k < n := by simpa [tabT_len] using hk
      refine ⟨[some (.tup (tabT n a)), some (.int m), some (.int k), some (.tup ((rowI n (a k)).map D.int))], [some (.tup (tabT n a)), some (.int m), some (.int k), some (.tup ((rowI n (a k)).map D.int))], s', ?_, ?_, ⟨_, _, rfl⟩, rfl⟩
      · rw [List.getElem_zipWith, List.getElem_range, tabT_get]
        rfl
      · refine (sIf_no (s' := s') ?_).trans (sNil_eq _ _)
        simp only [eAnd_eq, eOr_eq, eNot_eq, e1_eq, e2_eq, eA_eq, eK_eq, eN_eq, eC_eq, eV_eq, eF_eq, bB_eq, bT_eq, bAnd_eq, bOr_eq, bNot_eq, eT_eq, eL_eq, eIf_eq, eIt_eq, eItA_eq, eM_eq, eSl_eq, oNo_eq, oI_eq, eCh_eq, Res.bind_ok, truthD, List.getElem?_cons_succ, List.getElem?_cons_zero, pSum_tup, rowI_sum, ha.row k hk', pNe_int]
        simp) ⟨⟨none, none, rfl⟩, rfl⟩
  obtain ⟨⟨c1, d1, rfl⟩, rfl⟩ := hI1
  obtain ⟨e2', s2, q2, hI2⟩ := forL_all (t := .nm 2) (g := (sIf (bB (e2 pNe (eA pSum (eK (eLc false (eIt itSq (eV 0)) [3] (.nm 3) bYes (e2 pIx (eV 3) (eV 2))) (eN))) (eV 1))) (sRet (eT (eK (eC (.str "column")) (eK (eV 2) (eN))))) (sNil)))
    (ds := (List.range n).map fun i : Nat => D.int i) (I := fun _ e s' => (∃ c d, e = [some (.tup (tabT n a)), some (.int m), c, d]) ∧ s' = s1) (e := [some (.tup (tabT n a)), some (.int m), c1, d1]) (s := s1) (fun k hk e s' => by
      rintro ⟨⟨c, d, rfl⟩, rfl⟩
      have hk' : k < n := by simpa using hk
      refine ⟨[some (.tup (tabT n a)), some (.int m), some (.int k), d], [some (.tup (tabT n a)), some (.int m), some (.int k), d], s', ?_, ?_, ⟨_, _, rfl⟩, rfl⟩
      · rw [List.getElem_map, List.getElem_range]
        rfl
      · refine (sIf_no (s' := s') ?_).trans (sNil_eq _ _)
        have hl : (eLc false (eIt itSq (eV 0)) [3] (.nm 3) bYes (e2 pIx (eV 3) (eV 2))) [some (.tup (tabT n a)), some (.int m), some (.int k), d] s' = .ok (.lst ((rowI n fun i => a i k).map D.int)) s' := by
          rw [eLc_map (xs := tabT n a) (F := fun d => match d with | .tup l => l.getD k .non | _ => .non) rfl (by rw [tabT_len]; exact Nat.le_trans h6 (by decide)) fun d hd => by
            obtain ⟨i, hi, rfl⟩ := tabT_mem hd
            refine ⟨_, rfl, ?_⟩
            simp only [eAnd_eq, eOr_eq, eNot_eq, e1_eq, e2_eq, eA_eq, eK_eq, eN_eq, eC_eq, eV_eq, eF_eq, bB_eq, bT_eq, bAnd_eq, bOr_eq, bNot_eq, eT_eq, eL_eq, eIf_eq, eIt_eq, eItA_eq, eM_eq, eSl_eq, oNo_eq, oI_eq, eCh_eq, Res.bind_ok, truthD, wipeE, List.set_cons_succ, List.set_cons_zero, List.getElem?_cons_succ, List.getElem?_cons_zero]
            refine (pIx_atT (d := .int (a i k)) (by simp [rowI, hk']) s').trans ?_
            simp [rowI, hk']]
          simp only [mkL_false]
          congr 2
          unfold tabT
          rw [rowI, List.map_map, List.map_map]
          refine List.map_congr_left fun i _ => ?_
          simp [rowI, hk']
        rw [bB_eq, e2_eq, eA_eq, eK_eq, hl]
        simp only [eAnd_eq, eOr_eq, eNot_eq, e1_eq, e2_eq, eA_eq, eK_eq, eN_eq, eC_eq, eV_eq, eF_eq, bB_eq, bT_eq, bAnd_eq, bOr_eq, bNot_eq, eT_eq, eL_eq, eIf_eq, eIt_eq, eItA_eq, eM_eq, eSl_eq, oNo_eq, oI_eq, eCh_eq, Res.bind_ok, truthD, List.getElem?_cons_succ, List.getElem?_cons_zero, pSum_lst, rowI_sum, ha.col k hk', pNe_int]
        simp) ⟨⟨_, _, rfl⟩, rfl⟩
  obtain ⟨⟨c2, d2, rfl⟩, rfl⟩ := hI2
  unfold M_sums_fault
  refine runD_rt ?_
  show B_sums_fault [some (.tup (tabT n a)), none, none, none] s2 = _
  unfold B_sums_fault
  rw [sSeq_nx (sSet_ok (d := .int m) (s' := s2) (by
    simp only [eAnd_eq, eOr_eq, eNot_eq, e1_eq, e2_eq, eA_eq, eK_eq, eN_eq, eC_eq, eV_eq, eF_eq, bB_eq, bT_eq, bAnd_eq, bOr_eq, bNot_eq, eT_eq, eL_eq, eIf_eq, eIt_eq, eItA_eq, eM_eq, eSl_eq, oNo_eq, oI_eq, eCh_eq, Res.bind_ok, truthD, List.getElem?_cons_succ, List.getElem?_cons_zero]
    rw [show pIx (.tup (tabT n a)) (.int 0) s2 = .ok (.tup ((rowI n (a 0)).map D.int)) s2 from pIx_atT (i := 0) (by rw [tabT, List.getElem?_map, List.getElem?_range (by omega)]; rfl) s2]
    simp only [Res.bind_ok, pSum_tup, rowI_sum, ha.row 0 (by omega)]))]
  refine (sSeq_nx ((sFor_seq (s' := s2) (by simp only [eAnd_eq, eOr_eq, eNot_eq, e1_eq, e2_eq, eA_eq, eK_eq, eN_eq, eC_eq, eV_eq, eF_eq, bB_eq, bT_eq, bAnd_eq, bOr_eq, bNot_eq, eT_eq, eL_eq, eIf_eq, eIt_eq, eItA_eq, eM_eq, eSl_eq, oNo_eq, oI_eq, eCh_eq, Res.bind_ok, truthD, List.set_cons_succ, List.set_cons_zero, List.getElem?_cons_succ, List.getElem?_cons_zero, pEnum]) ).trans q1)).trans ?_
  refine (sSeq_nx ((sFor_seq (s' := s2) (by
    simp only [eAnd_eq, eOr_eq, eNot_eq, e1_eq, e2_eq, eA_eq, eK_eq, eN_eq, eC_eq, eV_eq, eF_eq, bB_eq, bT_eq, bAnd_eq, bOr_eq, bNot_eq, eT_eq, eL_eq, eIf_eq, eIt_eq, eItA_eq, eM_eq, eSl_eq, oNo_eq, oI_eq, eCh_eq, Res.bind_ok, truthD, List.getElem?_cons_succ, List.getElem?_cons_zero, pLen, sqOf, tabT_len]
    exact pRng1_nat (by omega) s2)).trans q2)).trans ?_
  exact sRet_ok rfl
/-! ### least_order -/
def encO (o : List Nat) : D := .tup (o.map fun j : Nat => D.int j)
theorem in_order (o : List Nat) (j : Nat) (s : S) : pNi (.int j) (encO o) s = .ok (.bl (!(o.contains j))) s := by
  have h1 : ∀ l : List Nat, (l.map fun j : Nat => D.int j).all flatD = true := fun l => by induction l <;> simp_all [flatD]
  have h2 : ∀ l : List Nat, ((l.map fun j : Nat => D.int j).any fun z => eqF z (.int j)) = l.contains j := fun l => by
    induction l with
    | nil => rfl
    | cons x l ih =>
      rw [List.map_cons, List.any_cons, ih, List.contains_cons]
      congr 1
      simp only [eqF]
      by_cases c : x = j
      · subst c; simp
      · rw [beq_eq_false_iff_ne.mpr (show (x : Int) ≠ j by omega), beq_eq_false_iff_ne.mpr (show j ≠ x by omega)]
  have h3 : inP (.int j) (encO o) s = some (o.contains j) := by
    unfold inP encO
    simp only [sqOf, h1, h2, flatD, and_self, if_true]
  unfold pNi
  rw [h3]
theorem add_order (o : List Nat) (j : Nat) (s : S) (h : o.length ≤ 1000) : pAdd false (encO o) (.tup [.int j]) s = .ok (encO (o ++ [j])) s := by
  have : (o.map fun j : Nat => D.int j).length + [D.int (j : Int)].length ≤ sizeLine := by
    simp only [List.length_map, List.length_singleton]
    exact Nat.le_trans (Nat.succ_le_succ h) (by decide)
  unfold encO
  simp only [pAdd, if_pos this]
  simp
theorem enu_at {n : Nat} {f : Nat → Int} {k : Nat} {s : S} (hs : s[k]? = some ((rowI n f).map D.int)) (i m : Nat) : nextIt (.enu k m) i s = some ((List.range n).map fun j : Nat => D.tup [.int j, .int (f j)])[i]? := by
  simp only [nextIt, hs]
  by_cases h : i < n
  · simp [rowI, h]
  · simp [rowI, h]
theorem seq_at (xs : List D) (i : Nat) (s : S) : nextIt (.seq xs) i s = some xs[i]? := rfl
def bodL : Es := (sSet 1 (eLc2 false (eIt itSq (eV 1)) [3, 4, 5] (.nm 3) bYes (eItA pEnum (eK (eV 2) (eN))) [4, 5] (.tp [.nm 4, .nm 5]) (bAnd (bB (e2 pGt (eV 5) (eC (.int 0)))) (bB (e2 pNi (eV 4) (eV 3)))) (e2 (pAdd false) (eV 3) (eT (eK (eV 4) (eN))))))
theorem bodL_ok {n k b : Nat} {a : Nat → Nat → Int} {s : S} {L : D} (hk : k < n) (h5 : n ≤ 5) (hs : s[b + k]? = some ((rowI n (a k)).map D.int)) :
    bodL [some L, some (.lst ((los n a k).map encO)), some (.ref (b + k)), none, none, none] s = .ok (.nx [some L, some (.lst ((los n a (k + 1)).map encO)), some (.ref (b + k)), none, none, none]) s := by
  unfold bodL
  have hlen : (los n a k).length ≤ 4000 := by
    refine Nat.le_trans (los_len k) ?_
    have h1 : n ^ k ≤ 5 ^ k := Nat.pow_le_pow_left h5 k
    have h2 : 5 ^ k ≤ 5 ^ 4 := Nat.pow_le_pow_right (by omega) (by omega)
    have h3 : (5 : Nat) ^ 4 = 625 := by decide
    omega
  have hO := compO_pureW (it := .seq ((los n a k).map encO)) (t := .nm 3) (c := bYes) (fi1 := eItA pEnum (eK (eV 2) (eN))) (vs1 := [4, 5]) (t1 := .tp [.nm 4, .nm 5]) (c1 := bAnd (bB (e2 pGt (eV 5) (eC (.int 0)))) (bB (e2 pNi (eV 4) (eV 3)))) (f := e2 (pAdd false) (eV 3) (eT (eK (eV 4) (eN))))
    (F := fun d => match d with | .tup l => (((List.range n).filter fun j => decide (0 < a k j) && !((l.map fun d => match d with | .int i => i.toNat | _ => 0).contains j)).map fun j : Nat => D.tup (l ++ [.int j])) | _ => [])
    (e := [some L, some (.lst ((los n a k).map encO)), some (.ref (b + k)), none, none, none]) (s := s) (L := (los n a k).map encO) (fun i => seq_at _ i s) (fun d hd => by
      obtain ⟨o, ho, rfl⟩ := List.mem_map.mp hd
      have hp := los_par ho
      refine ⟨[some L, some (.lst ((los n a k).map encO)), some (.ref (b + k)), some (encO o), none, none], .enu (b + k) n, rfl, rfl, ?_, show n ≤ 4000 by omega, ?_⟩
      · simp only [eAnd_eq, eOr_eq, eNot_eq, e1_eq, e2_eq, eA_eq, eK_eq, eN_eq, eC_eq, eV_eq, eF_eq, bB_eq, bT_eq, bAnd_eq, bOr_eq, bNot_eq, eT_eq, eL_eq, eIf_eq, eIt_eq, eItA_eq, eM_eq, eSl_eq, oNo_eq, oI_eq, eCh_eq, Res.bind_ok, truthD, List.getElem?_cons_succ, List.getElem?_cons_zero, pEnum, hs, List.length_map, rowI_len]
      · have hI := compI_pureW (it := .enu (b + k) n) (t := .tp [.nm 4, .nm 5]) (c := bAnd (bB (e2 pGt (eV 5) (eC (.int 0)))) (bB (e2 pNi (eV 4) (eV 3)))) (f := e2 (pAdd false) (eV 3) (eT (eK (eV 4) (eN))))
          (P := fun d => match d with | .tup [.int j, .int x] => decide (0 < x) && !(o.contains j.toNat) | _ => false) (F := fun d => match d with | .tup [.int j, .int x] => encO (o ++ [j.toNat]) | _ => .non)
          (e := [some L, some (.lst ((los n a k).map encO)), some (.ref (b + k)), some (encO o), none, none]) (s := s) (fun i => enu_at hs i n) (fun d hd => by
            obtain ⟨j, hj, rfl⟩ := List.mem_map.mp hd
            refine ⟨[some L, some (.lst ((los n a k).map encO)), some (.ref (b + k)), some (encO o), some (.int j), some (.int (a k j))], rfl, ?_, fun _ => ?_⟩
            · simp only [eAnd_eq, eOr_eq, eNot_eq, e1_eq, e2_eq, eA_eq, eK_eq, eN_eq, eC_eq, eV_eq, eF_eq, bB_eq, bT_eq, bAnd_eq, bOr_eq, bNot_eq, eT_eq, eL_eq, eIf_eq, eIt_eq, eItA_eq, eM_eq, eSl_eq, oNo_eq, oI_eq, eCh_eq, Res.bind_ok, truthD, List.getElem?_cons_succ, List.getElem?_cons_zero, pGt, in_order, Int.toNat_natCast]
              by_cases c : 0 < a k j
              · simp only [decide_eq_true c, if_true, Bool.true_and]
              · simp only [decide_eq_false c, Bool.false_eq_true, if_false, Bool.false_and]
            · simp only [eAnd_eq, eOr_eq, eNot_eq, e1_eq, e2_eq, eA_eq, eK_eq, eN_eq, eC_eq, eV_eq, eF_eq, bB_eq, bT_eq, bAnd_eq, bOr_eq, bNot_eq, eT_eq, eL_eq, eIf_eq, eIt_eq, eItA_eq, eM_eq, eSl_eq, oNo_eq, oI_eq, eCh_eq, Res.bind_ok, truthD, List.getElem?_cons_succ, List.getElem?_cons_zero, add_order o j s (by rw [hp.len]; omega), Int.toNat_natCast]) n 0 (by simp)
        refine Eq.trans hI ?_
        rw [List.drop_zero, List.filter_map, List.map_map]
        congr 1
        unfold encO
        simp only [List.map_map]
        have e1 : (o.map ((fun d => match d with | D.int i => i.toNat | _ => 0) ∘ fun j : Nat => D.int j)) = o := by
          conv => rhs; rw [← List.map_id o]
          exact List.map_congr_left fun j _ => by simp
        rw [e1]
        refine List.map_congr_left fun j _ => ?_
        simp) ((los n a k).map encO).length 0 (by omega)
  rw [sSet_ok (d := .lst ((los n a (k + 1)).map encO)) (s' := s) ?_]
  · rfl
  · unfold eLc2
    rw [show (eIt itSq (eV 1)) [some L, some (.lst ((los n a k).map encO)), some (.ref (b + k)), none, none, none] s = .ok (.seq ((los n a k).map encO)) s from rfl]
    simp only [Res.bind_ok]
    rw [if_pos (show (Wlk.seq ((los n a k).map encO)).len ≤ 4000 by show ((los n a k).map encO).length ≤ 4000; rwa [List.length_map])]
    refine (congrArg (fun r => Res.bind r (mkL false)) hO).trans ?_
    simp only [Res.bind_ok, List.drop_zero, mkL_false]
    congr 2
    rw [los, List.map_flatMap, List.flatMap_map]
    congr 1
    funext o
    unfold encO
    simp only [List.map_map]
    have e1 : (o.map ((fun d => match d with | D.int i => i.toNat | _ => 0) ∘ fun j : Nat => D.int j)) = o := by
      conv => rhs; rw [← List.map_id o]
      exact List.map_congr_left fun j _ => by simp
    rw [e1]
    refine List.map_congr_left fun j _ => ?_
    simp
theorem least_ok {n b : Nat} {m : Int} {a : Nat → Nat → Int} {s : S} (h1 : 1 ≤ n) (h5 : n ≤ 5) (hm : 0 < m) (ha : Eqs n m a) (hs : ∀ i, i < n → s[b + i]? = some ((rowI n (a i)).map D.int)) : ∃ o, M_least_order [.lst (refs b n)] s = .ok (encO o) s ∧ Ord n o ∧ ∀ i, i < n → 0 < a i (o.getD i 0) := by
  obtain ⟨f, hf⟩ := full_order hm ha n (Nat.le_refl _)
  have hne := los_in hf
  obtain ⟨e', s', q, hI⟩ := forL_all (t := .nm 2) (g := bodL) (ds := refs b n) (I := fun k e s' => (∃ c, e = [some (.lst (refs b n)), some (.lst ((los n a k).map encO)), c, none, none, none]) ∧ s' = s) (e := [some (.lst (refs b n)), some (.lst [.tup []]), none, none, none, none]) (s := s) (fun k hk e s' => by
    rintro ⟨⟨c, rfl⟩, rfl⟩
    have hk' : k < n := by rwa [refs_len] at hk
    refine ⟨[some (.lst (refs b n)), some (.lst ((los n a k).map encO)), some (.ref (b + k)), none, none, none], _, s', ?_, bodL_ok hk' h5 (hs k hk'), ⟨_, rfl⟩, rfl⟩
    simp [refs, asg]) ⟨⟨none, rfl⟩, rfl⟩
  rw [refs_len] at hI
  obtain ⟨⟨c, rfl⟩, rfl⟩ := hI
  cases ce : los n a n with
  | nil => rw [ce] at hne; cases hne
  | cons o os =>
    have hp := los_par (n := n) (a := a) (r := n) (o := o) (by rw [ce]; exact List.mem_cons_self)
    refine ⟨o, ?_, ⟨hp.len, hp.nd, hp.lt⟩, hp.pos⟩
    unfold M_least_order
    refine runD_rt ?_
    show B_least_order [some (.lst (refs b n)), none, none, none, none, none] s' = _
    unfold B_least_order
    rw [sSeq_nx (sSet_ok (d := .lst [.tup []]) (s' := s') rfl)]
    refine (sSeq_nx ((sFor_seq (xs := refs b n) (s' := s') rfl).trans q)).trans ?_
    refine sRet_ok ?_
    rw [ce, List.map_cons]
    have ht : truthD (.lst (encO o :: os.map encO)) s' = some true := rfl
    rw [eIf_eq, bT_eq]
    simp only [eV_eq, List.getElem?_cons_succ, List.getElem?_cons_zero, Res.bind_ok, ht, if_true, e2_eq, eC_eq]
    exact pIx_head rfl s'
/-! ### orders_paper -/
def encF (p : List Nat × Int) : D := .tup [encO p.1, .int p.2]
theorem minI_ok : ∀ {L : List Int}, 0 < L.length → (∀ y ∈ L, minI L ≤ y) ∧ minI L ∈ L
  | [], h => by simp at h
  | x :: xs, _ => minI_le xs x
theorem pMin_lst {L : List Int} (h : 0 < L.length) (s : S) : pMin [.lst (L.map D.int)] s = .ok (.int (minI L)) s := by
  simp only [pMin, lsq, intsD_map, if_pos h]
def stO (s0 : S) (n : Nat) (a : Nat → Nat → Int) (fs : List (List Nat × Int)) : S := s0 ++ mat n a ++ [fs.map encF]
theorem stO_row {s0 : S} {n : Nat} {a : Nat → Nat → Int} {fs : List (List Nat × Int)} {i : Nat} (h : i < n) : (stO s0 n a fs)[s0.length + i]? = some ((rowI n (a i)).map D.int) := st_get h s0 _
def envO (T : D) (b n : Nat) (c4 c5 c6 c7 : Option D) : En := [some T, some .non, some (.lst (refs b n)), some (.ref (b + n)), c4, c5, c6, c7, none]
def cndO : Eb := (bB (e2 pGt (eA pSum (eK (e2 pIx (eV 2) (eC (.int 0))) (eN))) (eC (.int 0))))
def decO : Es := (sFor (eItA pEnum (eK (eV 4) (eN))) (.tp [.nm 6, .nm 7]) (sAugIx pSub (e2 pIx (eV 2) (eV 6)) (eV 7) (eV 5)))
def bodO : Es := (sSeq (sSet 4 (eF 1 M_least_order (eK (eV 2) (eN))))
  (sSeq (sSet 5 (eA pMin (eK (eLc false (eItA pEnum (eK (eV 4) (eN))) [6, 7] (.tp [.nm 6, .nm 7]) bYes (e2 pIx (e2 pIx (eV 2) (eV 6)) (eV 7))) (eN))))
  (sSeq decO
  (sExpr (eM mApp (eV 3) (eK (eT (eK (eV 4) (eK (eV 5) (eN)))) (eN)))))))
theorem cndO_ok {T : D} {s0 : S} {n : Nat} {a : Nat → Nat → Int} {m : Int} {fs : List (List Nat × Int)} {c4 c5 c6 c7 : Option D} (h1 : 1 ≤ n) (ha : Eqs n m a) : cndO (envO T s0.length n c4 c5 c6 c7) (stO s0 n a fs) = .ok (decide (0 < m)) (stO s0 n a fs) := by
  unfold cndO
  have e0 : pIx (.lst (refs s0.length n)) (.int 0) (stO s0 n a fs) = .ok (.ref (s0.length + 0)) (stO s0 n a fs) := pIx_refs (i := 0) (by omega) _
  have hr : (stO s0 n a fs)[s0.length + 0]? = some ((rowI n (a 0)).map D.int) := stO_row (by omega)
  simp only [eAnd_eq, eOr_eq, eNot_eq, e1_eq, e2_eq, eA_eq, eK_eq, eN_eq, eC_eq, eV_eq, eF_eq, bB_eq, bT_eq, bAnd_eq, bOr_eq, bNot_eq, eT_eq, eL_eq, eIf_eq, eIt_eq, eItA_eq, eM_eq, eSl_eq, oNo_eq, oI_eq, eCh_eq, Res.bind_ok, truthD, envO, List.getElem?_cons_succ, List.getElem?_cons_zero, e0, pSum, sqOf, lsq, hr, intsD_map, rowI_sum, ha.row 0 (by omega), pGt]
def stepA (a : Nat → Nat → Int) (o : List Nat) (z : Int) (k : Nat) : Nat → Nat → Int := fun i j => if i < k ∧ o.getD i 0 = j then a i j - z else a i j
theorem o_ints (o : List Nat) : o.map (fun j : Nat => D.int j) = (o.map fun j : Nat => (j : Int)).map D.int := by rw [List.map_map]; rfl
theorem decO_ok {T : D} {s0 : S} {n : Nat} {a : Nat → Nat → Int} {fs : List (List Nat × Int)} {o : List Nat} {z : Int} {c6 c7 : Option D} (ho : Ord n o) : ∃ c6' c7', decO (envO T s0.length n (some (encO o)) (some (.int z)) c6 c7) (stO s0 n a fs) = .ok (.nx (envO T s0.length n (some (encO o)) (some (.int z)) c6' c7')) (stO s0 n (take1 a o z) fs) := by
  have hlen : (o.map fun j : Nat => D.int j).length = n := by rw [List.length_map, ho.len]
  obtain ⟨e', s', q, hI⟩ := forL_all (t := .tp [.nm 6, .nm 7]) (g := (sAugIx pSub (e2 pIx (eV 2) (eV 6)) (eV 7) (eV 5)))
    (ds := (List.range (o.map fun j : Nat => D.int j).length).zipWith (fun (i : Nat) d => D.tup [.int (i : Int), d]) (o.map fun j : Nat => D.int j)) (I := fun k e s' => (∃ c d, e = envO T s0.length n (some (encO o)) (some (.int z)) c d) ∧ s' = stO s0 n (stepA a o z k) fs) (e := envO T s0.length n (some (encO o)) (some (.int z)) c6 c7) (s := stO s0 n a fs) (fun k hk e s' => by
      rintro ⟨⟨c, d, rfl⟩, rfl⟩
      have hk' : k < n := by simpa [ho.len] using hk
      have hoj := ho.lt' hk'
      have eo : o.getD k 0 = o[k]'(by rw [ho.len]; exact hk') := by simp [List.getD, List.getElem?_eq_getElem (show k < o.length by rw [ho.len]; exact hk')]
      have hrow : (stO s0 n (stepA a o z k) fs)[s0.length + k]? = some ((rowI n (stepA a o z k k)).map D.int) := stO_row hk'
      refine ⟨envO T s0.length n (some (encO o)) (some (.int z)) (some (.int k)) (some (.int (o.getD k 0 : Nat))), envO T s0.length n (some (encO o)) (some (.int z)) (some (.int k)) (some (.int (o.getD k 0 : Nat))), stO s0 n (stepA a o z (k + 1)) fs, ?_, ?_, ⟨_, _, rfl⟩, rfl⟩
      · rw [List.getElem_zipWith, List.getElem_range, List.getElem_map, eo]
        rfl
      · refine sAugIx_ok (n := s0.length + k) (k := (o.getD k 0 : Nat)) (x := .int (stepA a o z k k (o.getD k 0))) (y := .int z) (z := .int (stepA a o z k k (o.getD k 0) - z)) ?_ ?_ (pIx_row hrow hoj) ?_ ?_ ?_
        · simp only [eAnd_eq, eOr_eq, eNot_eq, e1_eq, e2_eq, eA_eq, eK_eq, eN_eq, eC_eq, eV_eq, eF_eq, bB_eq, bT_eq, bAnd_eq, bOr_eq, bNot_eq, eT_eq, eL_eq, eIf_eq, eIt_eq, eItA_eq, eM_eq, eSl_eq, oNo_eq, oI_eq, eCh_eq, Res.bind_ok, truthD, envO, List.getElem?_cons_succ, List.getElem?_cons_zero, pIx_refs hk']
        · simp only [eAnd_eq, eOr_eq, eNot_eq, e1_eq, e2_eq, eA_eq, eK_eq, eN_eq, eC_eq, eV_eq, eF_eq, bB_eq, bT_eq, bAnd_eq, bOr_eq, bNot_eq, eT_eq, eL_eq, eIf_eq, eIt_eq, eItA_eq, eM_eq, eSl_eq, oNo_eq, oI_eq, eCh_eq, Res.bind_ok, truthD, envO, List.getElem?_cons_succ, List.getElem?_cons_zero]
        · simp only [eAnd_eq, eOr_eq, eNot_eq, e1_eq, e2_eq, eA_eq, eK_eq, eN_eq, eC_eq, eV_eq, eF_eq, bB_eq, bT_eq, bAnd_eq, bOr_eq, bNot_eq, eT_eq, eL_eq, eIf_eq, eIt_eq, eItA_eq, eM_eq, eSl_eq, oNo_eq, oI_eq, eCh_eq, Res.bind_ok, truthD, envO, List.getElem?_cons_succ, List.getElem?_cons_zero]
        · simp only [pSub]
        · rw [setD_nat hrow (by simp [rowI]; exact hoj)]
          congr 1
          unfold stO
          rw [st_set hk']
          congr 2
          refine mat_congr fun i j hi hj => ?_
          unfold upd2 stepA
          by_cases c1 : i = k ∧ j = o.getD k 0
          · obtain ⟨rfl, rfl⟩ := c1
            rw [if_pos ⟨rfl, rfl⟩, if_neg (by omega), if_pos ⟨by omega, rfl⟩]
          · rw [if_neg c1]
            by_cases c2 : i < k ∧ o.getD i 0 = j
            · rw [if_pos c2, if_pos ⟨by omega, c2.2⟩]
            · rw [if_neg c2, if_neg fun c => by
                by_cases e : i = k
                · subst e; exact c1 ⟨rfl, c.2.symm⟩
                · exact c2 ⟨by omega, c.2⟩]) ⟨⟨c6, c7, rfl⟩, by
        unfold stO
        rw [mat_congr (a := a) (b := stepA a o z 0) fun i j _ _ => by unfold stepA; rw [if_neg (by omega)]]⟩
  obtain ⟨⟨c, d, rfl⟩, rfl⟩ := hI
  refine ⟨c, d, ?_⟩
  unfold decO
  refine (sFor_seq (xs := (List.range (o.map fun j : Nat => D.int j).length).zipWith (fun (i : Nat) d => D.tup [.int (i : Int), d]) (o.map fun j : Nat => D.int j)) (s' := stO s0 n a fs) (by simp only [eAnd_eq, eOr_eq, eNot_eq, e1_eq, e2_eq, eA_eq, eK_eq, eN_eq, eC_eq, eV_eq, eF_eq, bB_eq, bT_eq, bAnd_eq, bOr_eq, bNot_eq, eT_eq, eL_eq, eIf_eq, eIt_eq, eItA_eq, eM_eq, eSl_eq, oNo_eq, oI_eq, eCh_eq, Res.bind_ok, truthD, envO, List.getElem?_cons_succ, List.getElem?_cons_zero, encO, pEnum])).trans (q.trans ?_)
  congr 1
  unfold stO
  congr 2
  refine mat_congr fun i j hi hj => ?_
  simp only [List.length_zipWith, List.length_range, Nat.min_self, hlen]
  unfold stepA take1
  by_cases c : o.getD i 0 = j
  · rw [if_pos ⟨hi, c⟩, if_pos c]
  · rw [if_neg fun h => c h.2, if_neg c]; omega
theorem times_ok {T : D} {s0 : S} {n : Nat} {a : Nat → Nat → Int} {fs : List (List Nat × Int)} {o : List Nat} {c5 c6 c7 : Option D} (h1 : 1 ≤ n) (h5 : n ≤ 5) (ho : Ord n o) : ∃ z : Int, (eA pMin (eK (eLc false (eItA pEnum (eK (eV 4) (eN))) [6, 7] (.tp [.nm 6, .nm 7]) bYes (e2 pIx (e2 pIx (eV 2) (eV 6)) (eV 7))) (eN))) (envO T s0.length n (some (encO o)) c5 c6 c7) (stO s0 n a fs) = .ok (.int z) (stO s0 n a fs) ∧ (∀ i, i < n → z ≤ a i (o.getD i 0)) ∧ ∃ i, i < n ∧ z = a i (o.getD i 0) := by
  have hl : ((List.range (o.map fun j : Nat => (j : Int)).length).zipWith (fun i x => a i x.toNat) (o.map fun j : Nat => (j : Int))).length = n := by simp [ho.len]
  have hg : ∀ i, (hi : i < n) → ((List.range (o.map fun j : Nat => (j : Int)).length).zipWith (fun i x => a i x.toNat) (o.map fun j : Nat => (j : Int)))[i]'(by rw [hl]; exact hi) = a i (o.getD i 0) := fun i hi => by
    have : i < o.length := by rw [ho.len]; exact hi
    simp [List.getD, List.getElem?_eq_getElem this]
  obtain ⟨m1, m2⟩ := minI_ok (L := (List.range (o.map fun j : Nat => (j : Int)).length).zipWith (fun i x => a i x.toNat) (o.map fun j : Nat => (j : Int))) (by omega)
  refine ⟨minI ((List.range (o.map fun j : Nat => (j : Int)).length).zipWith (fun i x => a i x.toNat) (o.map fun j : Nat => (j : Int))), ?_, fun i hi => ?_, ?_⟩
  · have hL := enum_mapG (xs := o.map fun j : Nat => (j : Int)) (g := fun i x => a i x.toNat) (fi := eItA pEnum (eK (eV 4) (eN))) (c := e2 pIx (e2 pIx (eV 2) (eV 6)) (eV 7)) (vs := [6, 7]) (t := .tp [.nm 6, .nm 7]) (e := envO T s0.length n (some (encO o)) c5 c6 c7) (s := stO s0 n a fs) (by simp only [eAnd_eq, eOr_eq, eNot_eq, e1_eq, e2_eq, eA_eq, eK_eq, eN_eq, eC_eq, eV_eq, eF_eq, bB_eq, bT_eq, bAnd_eq, bOr_eq, bNot_eq, eT_eq, eL_eq, eIf_eq, eIt_eq, eItA_eq, eM_eq, eSl_eq, oNo_eq, oI_eq, eCh_eq, Res.bind_ok, truthD, envO, List.getElem?_cons_succ, List.getElem?_cons_zero, encO, pEnum, o_ints]) (by simp [ho.len]; omega) fun i hi => by
      have hi2 : i < o.length := by simpa using hi
      have hi' : i < n := by rwa [ho.len] at hi2
      have ex : (o.map fun j : Nat => (j : Int))[i] = (o[i] : Nat) := by simp
      rw [ex]
      refine ⟨_, rfl, ?_⟩
      simp only [eAnd_eq, eOr_eq, eNot_eq, e1_eq, e2_eq, eA_eq, eK_eq, eN_eq, eC_eq, eV_eq, eF_eq, bB_eq, bT_eq, bAnd_eq, bOr_eq, bNot_eq, eT_eq, eL_eq, eIf_eq, eIt_eq, eItA_eq, eM_eq, eSl_eq, oNo_eq, oI_eq, eCh_eq, Res.bind_ok, truthD, envO, wipeE, List.set_cons_succ, List.set_cons_zero, List.getElem?_cons_succ, List.getElem?_cons_zero, pIx_refs hi', Int.toNat_natCast]
      exact pIx_row (stO_row hi') (ho.lt _ (List.getElem_mem hi2))
    rw [eA_eq, eK_eq, hL]
    simp only [Res.bind_ok, eN_eq]
    exact pMin_lst (by omega) _
  · rw [← hg i hi]
    exact m1 _ (List.getElem_mem _)
  · obtain ⟨i, hi, e⟩ := List.mem_iff_getElem.mp m2
    have hi' : i < n := by rwa [hl] at hi
    exact ⟨i, hi', by rw [← e, hg i hi']⟩
structure Fnd (n : Nat) (A a : Nat → Nat → Int) (M m : Int) (fs : List (List Nat × Int)) : Prop where
  val : ∀ i j, i < n → j < n → A i j = a i j + (fs.map fun p => if p.1.getD i 0 = j then p.2 else 0).sum
  tot : M = m + (fs.map (·.2)).sum
  ord : ∀ p ∈ fs, Ord n p.1
  cnt : fs.length + m ≤ M
theorem orders_loop {T : D} {s0 : S} {n : Nat} {A : Nat → Nat → Int} {M : Int} (h1 : 1 ≤ n) (h5 : n ≤ 5) (hM : M ≤ 1000) : ∀ (k fuel : Nat) (a : Nat → Nat → Int) (m : Int) (fs : List (List Nat × Int)) (c4 c5 c6 c7 : Option D), Eqs n m a → m ≤ k → k < fuel → 0 ≤ m → Fnd n A a M m fs →
    ∃ a' fs' d4 d5 d6 d7, sWhile fuel cndO bodO (envO T s0.length n c4 c5 c6 c7) (stO s0 n a fs) = .ok (.nx (envO T s0.length n d4 d5 d6 d7)) (stO s0 n a' fs') ∧ Eqs n 0 a' ∧ Fnd n A a' M 0 fs' := by
  intro k
  induction k with
  | zero =>
    intro fuel a m fs c4 c5 c6 c7 ha hm hf h0 hF
    obtain ⟨f, rfl⟩ : ∃ f, fuel = f + 1 := ⟨fuel - 1, by omega⟩
    have e : m = 0 := by omega
    subst e
    refine ⟨a, fs, c4, c5, c6, c7, ?_, ha, hF⟩
    have hc := cndO_ok (T := T) (s0 := s0) (fs := fs) (c4 := c4) (c5 := c5) (c6 := c6) (c7 := c7) h1 ha
    rw [decide_eq_false (by omega)] at hc
    exact sWhile_no hc
  | succ k ih =>
    intro fuel a m fs c4 c5 c6 c7 ha hm hf h0 hF
    obtain ⟨f, rfl⟩ : ∃ f, fuel = f + 1 := ⟨fuel - 1, by omega⟩
    have hc := cndO_ok (T := T) (s0 := s0) (fs := fs) (c4 := c4) (c5 := c5) (c6 := c6) (c7 := c7) h1 ha
    by_cases e : 0 < m
    · rw [decide_eq_true e] at hc
      obtain ⟨o, q1, ho, hp⟩ := least_ok (b := s0.length) (s := stO s0 n a fs) h1 h5 e ha fun i hi => stO_row hi
      obtain ⟨z, q2, z1, i0, hi0, z2⟩ := times_ok (T := T) (s0 := s0) (a := a) (fs := fs) (c5 := c5) (c6 := c6) (c7 := c7) h1 h5 ho
      have hz : 0 < z := by rw [z2]; exact hp i0 hi0
      have hzm : z ≤ m := by rw [z2]; exact ha.le hi0 (ho.lt' hi0)
      obtain ⟨d6, d7, q3⟩ := decO_ok (T := T) (s0 := s0) (a := a) (fs := fs) (z := z) (c6 := c6) (c7 := c7) ho
      have hF' : Fnd n A (take1 a o z) M (m - z) (fs ++ [(o, z)]) := ⟨fun i j hi hj => by
        rw [hF.val i j hi hj, List.map_append, List.sum_append]
        unfold take1
        simp only [List.map_cons, List.map_nil, List.sum_cons, List.sum_nil]
        omega, by
        rw [List.map_append, List.sum_append]
        have := hF.tot
        simp only [List.map_cons, List.map_nil, List.sum_cons, List.sum_nil]
        omega, fun p hp => by
          rcases List.mem_append.mp hp with hp | hp
          · exact hF.ord p hp
          · have : p = (o, z) := by simpa using hp
            subst this
            exact ho, by
        have := hF.cnt
        simp only [List.length_append, List.length_singleton]
        omega⟩
      have hfl : fs.length < sizeLine := by
        have := hF.cnt
        exact Nat.lt_of_le_of_lt (show fs.length ≤ 1000 by omega) (by decide)
      have hb : bodO (envO T s0.length n c4 c5 c6 c7) (stO s0 n a fs) = .ok (.nx (envO T s0.length n (some (encO o)) (some (.int z)) d6 d7)) (stO s0 n (take1 a o z) (fs ++ [(o, z)])) := by
        unfold bodO
        rw [sSeq_nx (sSet_ok (d := encO o) (s' := stO s0 n a fs) (by
          simp only [eAnd_eq, eOr_eq, eNot_eq, e1_eq, e2_eq, eA_eq, eK_eq, eN_eq, eC_eq, eV_eq, eF_eq, bB_eq, bT_eq, bAnd_eq, bOr_eq, bNot_eq, eT_eq, eL_eq, eIf_eq, eIt_eq, eItA_eq, eM_eq, eSl_eq, oNo_eq, oI_eq, eCh_eq, Res.bind_ok, truthD, envO, List.getElem?_cons_succ, List.getElem?_cons_zero, List.length_cons, List.length_nil]
          exact q1))]
        rw [show (envO T s0.length n c4 c5 c6 c7).set 4 (some (encO o)) = envO T s0.length n (some (encO o)) c5 c6 c7 from rfl]
        rw [sSeq_nx (sSet_ok q2)]
        rw [show (envO T s0.length n (some (encO o)) c5 c6 c7).set 5 (some (.int z)) = envO T s0.length n (some (encO o)) (some (.int z)) c6 c7 from rfl]
        rw [sSeq_nx q3]
        refine sExpr_ok (d := .non) ?_
        have hg : (stO s0 n (take1 a o z) fs)[s0.length + n]? = some (fs.map encF) := by
          unfold stO
          rw [List.getElem?_append_right (by simp [mat])]
          simp [mat]
        have hfl' : (fs.map encF).length < sizeLine := by rwa [List.length_map]
        simp only [eAnd_eq, eOr_eq, eNot_eq, e1_eq, e2_eq, eA_eq, eK_eq, eN_eq, eC_eq, eV_eq, eF_eq, bB_eq, bT_eq, bAnd_eq, bOr_eq, bNot_eq, eT_eq, eL_eq, eIf_eq, eIt_eq, eItA_eq, eM_eq, eSl_eq, oNo_eq, oI_eq, eCh_eq, Res.bind_ok, truthD, envO, List.getElem?_cons_succ, List.getElem?_cons_zero, lsw, hg, mApp, if_pos hfl']
        congr 1
        unfold stO
        rw [List.set_append_right _ _ (by simp [mat])]
        simp [mat, encF]
      obtain ⟨a', fs', e4, e5, e6, e7, g1, g2, g3⟩ := ih f (take1 a o z) (m - z) (fs ++ [(o, z)]) (some (encO o)) (some (.int z)) d6 d7 (ha.take ho z1) (by omega) (by omega) (by omega) hF'
      refine ⟨a', fs', e4, e5, e6, e7, ?_, g2, g3⟩
      rw [sWhile_yes hc hb, g1]
    · have e' : m = 0 := by omega
      subst e'
      rw [decide_eq_false e] at hc
      exact ⟨a, fs, c4, c5, c6, c7, sWhile_no hc, ha, hF⟩
theorem orders_ok {n : Nat} {A : Nat → Nat → Int} {M : Int} (h1 : 1 ≤ n) (h5 : n ≤ 5) (hM0 : 0 ≤ M) (hM : M ≤ 60) (hA : Eqs n M A) (s : S) : ∃ (fs : List (List Nat × Int)) (t : S), M_orders_paper [.tup (tabT n A)] s = .ok (.tup [.str "orders", .tup (fs.map encF)]) (s ++ t) ∧ (fs.map (·.2)).sum = M ∧ (∀ i j, i < n → j < n → A i j = (fs.map fun p => if p.1.getD i 0 = j then p.2 else 0).sum) ∧ (∀ p ∈ fs, Ord n p.1) ∧ fs.length ≤ 60 := by
  obtain ⟨a', fs, d4, d5, d6, d7, q, hz, hF⟩ := orders_loop (T := .tup (tabT n A)) (s0 := s) (n := n) (A := A) (M := M) h1 h5 (by omega) 60 1000000 A M [] none none none none hA (by omega) (by omega) hM0 ⟨fun i j _ _ => by simp, by simp, fun p hp => (by simp at hp), by simp⟩
  have hc := hF.cnt
  refine ⟨fs, mat n a' ++ [fs.map encF], ?_, by have := hF.tot; omega, fun i j hi hj => by rw [hF.val i j hi hj, hz.is_zero hi hj]; omega, hF.ord, by omega⟩
  unfold M_orders_paper
  refine runD_rt ?_
  show B_orders_paper [some (.tup (tabT n A)), none, none, none, none, none, none, none, none] s = _
  unfold B_orders_paper
  rw [sSeq_nx (sExpr_ok (d := .non) (s' := s) (by
    simp only [eAnd_eq, eOr_eq, eNot_eq, e1_eq, e2_eq, eA_eq, eK_eq, eN_eq, eC_eq, eV_eq, eF_eq, bB_eq, bT_eq, bAnd_eq, bOr_eq, bNot_eq, eT_eq, eL_eq, eIf_eq, eIt_eq, eItA_eq, eM_eq, eSl_eq, oNo_eq, oI_eq, eCh_eq, Res.bind_ok, truthD, List.getElem?_cons_succ, List.getElem?_cons_zero, List.length_cons, List.length_nil]
    exact check_table_ok h1 (by omega) (fun i j hi hj => ⟨hA.nn i j hi hj, by have := hA.le hi hj; omega⟩) s))]
  rw [sSeq_nx (sSet_ok (d := .non) (s' := s) (by
    simp only [eAnd_eq, eOr_eq, eNot_eq, e1_eq, e2_eq, eA_eq, eK_eq, eN_eq, eC_eq, eV_eq, eF_eq, bB_eq, bT_eq, bAnd_eq, bOr_eq, bNot_eq, eT_eq, eL_eq, eIf_eq, eIt_eq, eItA_eq, eM_eq, eSl_eq, oNo_eq, oI_eq, eCh_eq, Res.bind_ok, truthD, List.getElem?_cons_succ, List.getElem?_cons_zero, List.length_cons, List.length_nil]
    exact sums_ok h1 (by omega) hA s))]
  rw [sSeq_nx ((sIf_no (s' := s) (by
    simp only [eAnd_eq, eOr_eq, eNot_eq, e1_eq, e2_eq, eA_eq, eK_eq, eN_eq, eC_eq, eV_eq, eF_eq, bB_eq, bT_eq, bAnd_eq, bOr_eq, bNot_eq, eT_eq, eL_eq, eIf_eq, eIt_eq, eItA_eq, eM_eq, eSl_eq, oNo_eq, oI_eq, eCh_eq, Res.bind_ok, truthD, List.set_cons_succ, List.set_cons_zero, List.getElem?_cons_succ, List.getElem?_cons_zero, pNs, isN]
    rfl)).trans (sNil_eq _ _))]
  have hL : (eLc false (eIt itSq (eV 0)) [8] (.nm 8) bYes (eA (pLst true) (eK (eV 8) (eN)))) [some (.tup (tabT n A)), some .non, none, none, none, none, none, none, none] s = .ok (.lst (refs s.length n)) (s ++ mat n A) := by
    rw [eLc_seq (xs := tabT n A) (s' := s) rfl (by rw [tabT_len]; exact Nat.le_trans h5 (by decide))]
    rw [compL_alloc (F := fun d => match d with | .tup l => l | _ => []) fun d hd s => by
      obtain ⟨i, hi, rfl⟩ := tabT_mem hd
      refine ⟨_, rfl, ?_⟩
      simp only [eAnd_eq, eOr_eq, eNot_eq, e1_eq, e2_eq, eA_eq, eK_eq, eN_eq, eC_eq, eV_eq, eF_eq, bB_eq, bT_eq, bAnd_eq, bOr_eq, bNot_eq, eT_eq, eL_eq, eIf_eq, eIt_eq, eItA_eq, eM_eq, eSl_eq, oNo_eq, oI_eq, eCh_eq, Res.bind_ok, truthD, wipeE, List.set_cons_succ, List.set_cons_zero, List.getElem?_cons_succ, List.getElem?_cons_zero, pLst, sqOf, mkL_true]]
    simp only [Res.bind_ok, mkL_false, tabT_len]
    congr 1
    unfold tabT mat
    rw [List.map_map]
    rfl
  refine (sSeq_nx (sSet_ok hL)).trans ?_
  rw [sSeq_nx (sSet_ok (d := .ref (s.length + n)) (s' := stO s n A []) (by
    simp only [eL_eq, eN_eq, Res.bind_ok, mkL_true, List.length_append, mat_len]
    rfl))]
  refine (sSeq_nx q).trans ?_
  refine sRet_ok ?_
  have hg : (stO s n a' fs)[s.length + n]? = some (fs.map encF) := by
    unfold stO
    rw [List.getElem?_append_right (by simp [mat])]
    simp [mat]
  simp only [eAnd_eq, eOr_eq, eNot_eq, e1_eq, e2_eq, eA_eq, eK_eq, eN_eq, eC_eq, eV_eq, eF_eq, bB_eq, bT_eq, bAnd_eq, bOr_eq, bNot_eq, eT_eq, eL_eq, eIf_eq, eIt_eq, eItA_eq, eM_eq, eSl_eq, oNo_eq, oI_eq, eCh_eq, Res.bind_ok, truthD, envO, List.getElem?_cons_succ, List.getElem?_cons_zero, pTup, lsq, hg]
  congr 1
  unfold stO
  rw [List.append_assoc]
end K54

set_option linter.all false
set_option maxRecDepth 100000
set_option maxHeartbeats 1000000
/-! k54: the law's numbers. Plain Lean. -/
namespace K54
open PySem L2 Cf
def Src.w (x : Src) (k : Nat) (d : D) : List D := x.enc.set k d
theorem src_ix {x : Src} {s : S} (h : s[0]? = some x.enc) : pIx (.ref 0) (.int 0) s = .ok (.lst (x.cs.map D.int)) s ∧ pIx (.ref 0) (.int 1) s = .ok (.int x.at_) s ∧ pIx (.ref 0) (.int 2) s = .ok (.int x.acc) s ∧ pIx (.ref 0) (.int 3) s = .ok (.int x.seed) s := by
  have a0 : atI x.enc 0 = some (.lst (x.cs.map D.int)) := rfl
  have a1 : atI x.enc 1 = some (.int x.at_) := rfl
  have a2 : atI x.enc 2 = some (.int x.acc) := rfl
  have a3 : atI x.enc 3 = some (.int x.seed) := rfl
  simp only [pIx, sqOf, lsq, h, a0, a1, a2, a3, and_self]
theorem src_set {x : Src} {s : S} (h : s[0]? = some x.enc) (v : Int) (n : Nat) : setD (.ref 0) (.int 1) (.int n) s = some (s.set 0 { x with at_ := n }.enc) ∧ setD (.ref 0) (.int 2) (.int v) s = some (s.set 0 { x with acc := v }.enc) ∧ setD (.ref 0) (.int 3) (.int v) s = some (s.set 0 { x with seed := v }.enc) :=
  ⟨setD_nat (j := 1) h (by simp [Src.enc]), setD_nat (j := 2) h (by simp [Src.enc]), setD_nat (j := 3) h (by simp [Src.enc])⟩
theorem set0 {s : S} (h : s[0]? = some (x : List D)) (d : List D) : (s.set 0 d)[0]? = some d := by
  have : 0 < s.length := (List.getElem?_eq_some_iff.mp h).1
  simp [this]
theorem pMul_c (i : Int) (s : S) : pMul false (.int i) (.int 69621) s = .ok (.int (i * 69621)) s := by
  have : CMul i 69621 ∨ CMulW i 69621 := .inl (.inr (by decide))
  simp only [pMul, if_pos this]
theorem pDiv_c {i j : Int} (h1 : 1 ≤ j) (h2 : j ≤ 1000) (s : S) : pDiv (.int i) (.int j) s = .ok (.int (i.fdiv j)) s := by
  have : CDivN i j ∨ CDivW i j := .inl ⟨by omega, by omega⟩
  simp only [pDiv, if_pos this]
theorem pMod_c {i j : Int} (h1 : 1 ≤ j) (s : S) : pMod (.int i) (.int j) s = .ok (.int (i.fmod j)) s := by
  have : j ≠ 0 := by omega
  simp only [pMod, if_pos this]
theorem pPow_c (s : S) : pPow (.int 10) (.int 18) s = .ok (.int (10 ^ (18 : Int).toNat)) s := by
  have : CPow 10 18 := by decide
  simp only [pPow, if_pos this]
theorem pInt_i (i : Int) (s : S) : pInt [.int i] s = .ok (.int i) s := rfl
def tailT : Es := (sSeq (sIf (bB (e2 pGt (e2 pIx (eV 0) (eC (.int 2))) (eC (.int 0)))) (sSeq (sSet 3 (e2 pMod (eA pInt (eK (e2 pIx (eV 0) (eC (.int 2))) (eN))) (eV 1)))
  (sSeq (sStore (e2 pDiv (eA pInt (eK (e2 pIx (eV 0) (eC (.int 2))) (eN))) (eV 1)) (eV 0) (eC (.int 2)))
  (sRet (eV 3)))) (sNil))
  (sSeq (sStore (e2 pMod (eA pInt (eK (e2 (pAdd false) (e2 (pMul false) (e2 pIx (eV 0) (eC (.int 3))) (eC (.int 69621))) (eC (.int 7))) (eN))) (eC (.int 2147483647))) (eV 0) (eC (.int 3)))
  (sRet (e2 pMod (eA pInt (eK (e2 pDiv (e2 pIx (eV 0) (eC (.int 3))) (eC (.int 5))) (eN))) (eV 1)))))
theorem tail_ok {x : Src} {s : S} {many : Int} {c2 c3 : Option D} (h : s[0]? = some x.enc) (h0 : 0 ≤ x.acc) (m1 : 1 ≤ many) (m2 : many ≤ 1000) : ∃ r x', tailT [some (.ref 0), some (.int many), c2, c3] s = .ok (.rt (.int r)) (s.set 0 (Src.enc x')) ∧ 0 ≤ r ∧ r < many ∧ 0 ≤ x'.acc := by
  obtain ⟨i0, i1, i2, i3⟩ := src_ix h
  unfold tailT
  by_cases c : 0 < x.acc
  · refine ⟨x.acc.fmod many, { x with acc := x.acc.fdiv many }, ?_, Int.fmod_nonneg_of_pos _ (by omega), Int.fmod_lt_of_pos _ (by omega), Int.fdiv_nonneg h0 (by omega)⟩
    refine sSeq_rt ?_
    rw [sIf_yes (s' := s) (by simp only [eAnd_eq, eOr_eq, eNot_eq, e1_eq, e2_eq, eA_eq, eK_eq, eN_eq, eC_eq, eV_eq, eF_eq, bB_eq, bT_eq, bAnd_eq, bOr_eq, bNot_eq, eT_eq, eL_eq, eIf_eq, eIt_eq, eItA_eq, eM_eq, eSl_eq, oNo_eq, oI_eq, eCh_eq, Res.bind_ok, truthD, List.getElem?_cons_succ, List.getElem?_cons_zero, i2, pGt, decide_eq_true c])]
    rw [sSeq_nx (sSet_ok (d := .int (x.acc.fmod many)) (s' := s) (by simp only [eAnd_eq, eOr_eq, eNot_eq, e1_eq, e2_eq, eA_eq, eK_eq, eN_eq, eC_eq, eV_eq, eF_eq, bB_eq, bT_eq, bAnd_eq, bOr_eq, bNot_eq, eT_eq, eL_eq, eIf_eq, eIt_eq, eItA_eq, eM_eq, eSl_eq, oNo_eq, oI_eq, eCh_eq, Res.bind_ok, truthD, List.getElem?_cons_succ, List.getElem?_cons_zero, i2, pInt_i, pMod_c m1]))]
    rw [sSeq_nx (sStore_ok (v := .int (x.acc.fdiv many)) (o := .ref 0) (i := .int 2) (s1 := s) (s2 := s) (s3 := s) (by simp only [eAnd_eq, eOr_eq, eNot_eq, e1_eq, e2_eq, eA_eq, eK_eq, eN_eq, eC_eq, eV_eq, eF_eq, bB_eq, bT_eq, bAnd_eq, bOr_eq, bNot_eq, eT_eq, eL_eq, eIf_eq, eIt_eq, eItA_eq, eM_eq, eSl_eq, oNo_eq, oI_eq, eCh_eq, Res.bind_ok, truthD, List.set_cons_succ, List.set_cons_zero, List.getElem?_cons_succ, List.getElem?_cons_zero, i2, pInt_i, pDiv_c m1 m2]) rfl rfl (src_set h _ 0).2.1)]
    refine sRet_ok ?_
    simp only [eV_eq, List.set_cons_succ, List.set_cons_zero, List.getElem?_cons_succ, List.getElem?_cons_zero]
  · have hs := set0 h { x with seed := (x.seed * 69621 + 7).fmod 2147483647 }.enc
    obtain ⟨j0, j1, j2, j3⟩ := src_ix hs
    refine ⟨(((x.seed * 69621 + 7).fmod 2147483647).fdiv 5).fmod many, { x with seed := (x.seed * 69621 + 7).fmod 2147483647 }, ?_, Int.fmod_nonneg_of_pos _ (by omega), Int.fmod_lt_of_pos _ (by omega), h0⟩
    rw [sSeq_nx ((sIf_no (s' := s) (by simp only [eAnd_eq, eOr_eq, eNot_eq, e1_eq, e2_eq, eA_eq, eK_eq, eN_eq, eC_eq, eV_eq, eF_eq, bB_eq, bT_eq, bAnd_eq, bOr_eq, bNot_eq, eT_eq, eL_eq, eIf_eq, eIt_eq, eItA_eq, eM_eq, eSl_eq, oNo_eq, oI_eq, eCh_eq, Res.bind_ok, truthD, List.getElem?_cons_succ, List.getElem?_cons_zero, i2, pGt, decide_eq_false c])).trans (sNil_eq _ _))]
    rw [sSeq_nx (sStore_ok (v := .int ((x.seed * 69621 + 7).fmod 2147483647)) (o := .ref 0) (i := .int 3) (s1 := s) (s2 := s) (s3 := s) (by simp only [eAnd_eq, eOr_eq, eNot_eq, e1_eq, e2_eq, eA_eq, eK_eq, eN_eq, eC_eq, eV_eq, eF_eq, bB_eq, bT_eq, bAnd_eq, bOr_eq, bNot_eq, eT_eq, eL_eq, eIf_eq, eIt_eq, eItA_eq, eM_eq, eSl_eq, oNo_eq, oI_eq, eCh_eq, Res.bind_ok, truthD, List.getElem?_cons_succ, List.getElem?_cons_zero, i3, pMul_c, pAdd, pInt_i, pMod_c (show (1 : Int) ≤ 2147483647 by decide)]) rfl rfl (src_set h _ 0).2.2)]
    refine sRet_ok ?_
    simp only [eAnd_eq, eOr_eq, eNot_eq, e1_eq, e2_eq, eA_eq, eK_eq, eN_eq, eC_eq, eV_eq, eF_eq, bB_eq, bT_eq, bAnd_eq, bOr_eq, bNot_eq, eT_eq, eL_eq, eIf_eq, eIt_eq, eItA_eq, eM_eq, eSl_eq, oNo_eq, oI_eq, eCh_eq, Res.bind_ok, truthD, List.getElem?_cons_succ, List.getElem?_cons_zero, j3, pInt_i, pDiv_c (show (1 : Int) ≤ 5 by decide) (show (5 : Int) ≤ 1000 by decide), pMod_c m1]
theorem take_ok {x : Src} {s : S} {many : Int} (h : s[0]? = some x.enc) (h0 : 0 ≤ x.acc) (m1 : 1 ≤ many) (m2 : many ≤ 1000) : ∃ r x', M_law_take [.ref 0, .int many] s = .ok (.int r) (s.set 0 (Src.enc x')) ∧ 0 ≤ r ∧ r < many ∧ 0 ≤ x'.acc := by
  obtain ⟨i0, i1, i2, i3⟩ := src_ix h
  have start : ∀ {g r x'}, (∃ e, g [some (.ref 0), some (.int many), none, none] s = .ok (.rt e) (s.set 0 (Src.enc x')) ∧ e = .int r) → runD 4 g [.ref 0, .int many] s = .ok (.int r) (s.set 0 (Src.enc x')) := by
    rintro g r x' ⟨e, h1, rfl⟩
    exact runD_rt h1
  by_cases c : x.acc = 0 ∧ x.at_ < x.cs.length
  · obtain ⟨c1, c2⟩ := c
    have hcond : (bAnd (bB (e2 pEq (e2 pIx (eV 0) (eC (.int 2))) (eC (.int 0)))) (bB (e2 pLt (e2 pIx (eV 0) (eC (.int 1))) (eA pLen (eK (e2 pIx (eV 0) (eC (.int 0))) (eN)))))) [some (.ref 0), some (.int many), none, none] s = .ok true s := by
      simp only [eAnd_eq, eOr_eq, eNot_eq, e1_eq, e2_eq, eA_eq, eK_eq, eN_eq, eC_eq, eV_eq, eF_eq, bB_eq, bT_eq, bAnd_eq, bOr_eq, bNot_eq, eT_eq, eL_eq, eIf_eq, eIt_eq, eItA_eq, eM_eq, eSl_eq, oNo_eq, oI_eq, eCh_eq, Res.bind_ok, truthD, List.getElem?_cons_succ, List.getElem?_cons_zero, i0, i1, i2, pEq_int, decide_eq_true c1, if_true, pLen, sqOf, lsq, List.length_map, pLt, decide_eq_true (show (x.at_ : Int) < x.cs.length by omega)]
    have hv : (eA pAbs (eK (eA pInt (eK (e2 pIx (e2 pIx (eV 0) (eC (.int 0))) (e2 pIx (eV 0) (eC (.int 1)))) (eN))) (eN))) [some (.ref 0), some (.int many), none, none] s = .ok (.int (if x.cs.getD x.at_ 0 < 0 then -(x.cs.getD x.at_ 0) else x.cs.getD x.at_ 0)) s := by
      simp only [eAnd_eq, eOr_eq, eNot_eq, e1_eq, e2_eq, eA_eq, eK_eq, eN_eq, eC_eq, eV_eq, eF_eq, bB_eq, bT_eq, bAnd_eq, bOr_eq, bNot_eq, eT_eq, eL_eq, eIf_eq, eIt_eq, eItA_eq, eM_eq, eSl_eq, oNo_eq, oI_eq, eCh_eq, Res.bind_ok, truthD, List.getElem?_cons_succ, List.getElem?_cons_zero, i0, i1, pIx_nat _ c2, pInt_i, pAbs]
    generalize hvv : (if x.cs.getD x.at_ 0 < 0 then -(x.cs.getD x.at_ 0) else x.cs.getD x.at_ 0) = v at hv
    have hv0 : 0 ≤ v := by rw [← hvv]; split <;> omega
    have h1 := set0 h { x with acc := v }.enc
    obtain ⟨j0, j1, j2, j3⟩ := src_ix h1
    have h2 := set0 h1 { x with acc := v, at_ := x.at_ + 1 }.enc
    obtain ⟨k0, k1, k2, k3⟩ := src_ix h2
    have hss : (s.set 0 { x with acc := v }.enc).set 0 { x with acc := v, at_ := x.at_ + 1 }.enc = s.set 0 { x with acc := v, at_ := x.at_ + 1 }.enc := List.set_set ..
    rw [hss] at h2 k0 k1 k2 k3
    have st1 : sStore (eA pAbs (eK (eA pInt (eK (e2 pIx (e2 pIx (eV 0) (eC (.int 0))) (e2 pIx (eV 0) (eC (.int 1)))) (eN))) (eN))) (eV 0) (eC (.int 2)) [some (.ref 0), some (.int many), none, none] s = .ok (.nx [some (.ref 0), some (.int many), none, none]) (s.set 0 { x with acc := v }.enc) := sStore_ok hv rfl rfl (src_set h _ 0).2.1
    have st2 : sStore (e2 (pAdd false) (e2 pIx (eV 0) (eC (.int 1))) (eC (.int 1))) (eV 0) (eC (.int 1)) [some (.ref 0), some (.int many), none, none] (s.set 0 { x with acc := v }.enc) = .ok (.nx [some (.ref 0), some (.int many), none, none]) (s.set 0 { x with acc := v, at_ := x.at_ + 1 }.enc) := by
      rw [sStore_ok (v := .int ((x.at_ + 1 : Nat) : Int)) (s1 := s.set 0 { x with acc := v }.enc) (by
        simp only [eAnd_eq, eOr_eq, eNot_eq, e1_eq, e2_eq, eA_eq, eK_eq, eN_eq, eC_eq, eV_eq, eF_eq, bB_eq, bT_eq, bAnd_eq, bOr_eq, bNot_eq, eT_eq, eL_eq, eIf_eq, eIt_eq, eItA_eq, eM_eq, eSl_eq, oNo_eq, oI_eq, eCh_eq, Res.bind_ok, truthD, List.getElem?_cons_succ, List.getElem?_cons_zero, j1, pAdd]
        rfl) rfl rfl (src_set h1 0 (x.at_ + 1)).1, hss]
    have hlt : (bB (e2 pLt (e2 pIx (eV 0) (eC (.int 2))) (e2 pPow (eC (.int 10)) (eC (.int 18))))) [some (.ref 0), some (.int many), none, none] (s.set 0 { x with acc := v, at_ := x.at_ + 1 }.enc) = .ok (decide (v < 10 ^ (18 : Int).toNat)) (s.set 0 { x with acc := v, at_ := x.at_ + 1 }.enc) := by
      simp only [eAnd_eq, eOr_eq, eNot_eq, e1_eq, e2_eq, eA_eq, eK_eq, eN_eq, eC_eq, eV_eq, eF_eq, bB_eq, bT_eq, bAnd_eq, bOr_eq, bNot_eq, eT_eq, eL_eq, eIf_eq, eIt_eq, eItA_eq, eM_eq, eSl_eq, oNo_eq, oI_eq, eCh_eq, Res.bind_ok, truthD, List.getElem?_cons_succ, List.getElem?_cons_zero, k2, pPow_c, pLt]
    by_cases c3 : v < 10 ^ (18 : Int).toNat
    · rw [decide_eq_true c3] at hlt
      refine ⟨v.fmod many, { x with acc := 0, at_ := x.at_ + 1 }, start ⟨_, ?_, rfl⟩, Int.fmod_nonneg_of_pos _ (by omega), Int.fmod_lt_of_pos _ (by omega), Int.le_refl 0⟩
      unfold B_law_take
      refine sSeq_rt ?_
      rw [sIf_yes hcond, sSeq_nx st1, sSeq_nx st2, sIf_yes hlt]
      rw [sSeq_nx (sSet_ok (d := .int v) (s' := s.set 0 { x with acc := v, at_ := x.at_ + 1 }.enc) (by simp only [eAnd_eq, eOr_eq, eNot_eq, e1_eq, e2_eq, eA_eq, eK_eq, eN_eq, eC_eq, eV_eq, eF_eq, bB_eq, bT_eq, bAnd_eq, bOr_eq, bNot_eq, eT_eq, eL_eq, eIf_eq, eIt_eq, eItA_eq, eM_eq, eSl_eq, oNo_eq, oI_eq, eCh_eq, Res.bind_ok, truthD, List.getElem?_cons_succ, List.getElem?_cons_zero, k2, pInt_i]))]
      rw [sSeq_nx (sStore_ok (v := .int 0) (o := .ref 0) (i := .int 2) (s1 := s.set 0 { x with acc := v, at_ := x.at_ + 1 }.enc) (s2 := s.set 0 { x with acc := v, at_ := x.at_ + 1 }.enc) (s3 := s.set 0 { x with acc := v, at_ := x.at_ + 1 }.enc) rfl rfl rfl (src_set h2 0 0).2.1), List.set_set]
      refine sRet_ok ?_
      simp only [eAnd_eq, eOr_eq, eNot_eq, e1_eq, e2_eq, eA_eq, eK_eq, eN_eq, eC_eq, eV_eq, eF_eq, bB_eq, bT_eq, bAnd_eq, bOr_eq, bNot_eq, eT_eq, eL_eq, eIf_eq, eIt_eq, eItA_eq, eM_eq, eSl_eq, oNo_eq, oI_eq, eCh_eq, Res.bind_ok, truthD, List.set_cons_succ, List.set_cons_zero, List.getElem?_cons_succ, List.getElem?_cons_zero, pMod_c m1]
    · rw [decide_eq_false c3] at hlt
      obtain ⟨r, x', q, r1, r2, r3⟩ := tail_ok (c2 := none) (c3 := none) h2 hv0 m1 m2
      rw [List.set_set] at q
      refine ⟨r, x', start ⟨_, ?_, rfl⟩, r1, r2, r3⟩
      unfold B_law_take
      refine Eq.trans (sSeq_nx ?_) q
      rw [sIf_yes hcond, sSeq_nx st1, sSeq_nx st2, sIf_no hlt]
      rfl
  · obtain ⟨r, x', q, r1, r2, r3⟩ := tail_ok (c2 := none) (c3 := none) h h0 m1 m2
    refine ⟨r, x', start ⟨_, ?_, rfl⟩, r1, r2, r3⟩
    unfold B_law_take
    refine (sSeq_nx (e' := [some (.ref 0), some (.int many), none, none]) (s' := s) ?_).trans q
    refine (sIf_no ?_).trans (sNil_eq _ _)
    by_cases c1 : x.acc = 0
    · have c2 : ¬ x.at_ < x.cs.length := fun c2 => c ⟨c1, c2⟩
      simp only [eAnd_eq, eOr_eq, eNot_eq, e1_eq, e2_eq, eA_eq, eK_eq, eN_eq, eC_eq, eV_eq, eF_eq, bB_eq, bT_eq, bAnd_eq, bOr_eq, bNot_eq, eT_eq, eL_eq, eIf_eq, eIt_eq, eItA_eq, eM_eq, eSl_eq, oNo_eq, oI_eq, eCh_eq, Res.bind_ok, truthD, List.getElem?_cons_succ, List.getElem?_cons_zero, i0, i1, i2, pEq_int, decide_eq_true c1, if_true, pLen, sqOf, lsq, List.length_map, pLt, decide_eq_false (show ¬ (x.at_ : Int) < x.cs.length by omega)]
    · simp only [eAnd_eq, eOr_eq, eNot_eq, e1_eq, e2_eq, eA_eq, eK_eq, eN_eq, eC_eq, eV_eq, eF_eq, bB_eq, bT_eq, bAnd_eq, bOr_eq, bNot_eq, eT_eq, eL_eq, eIf_eq, eIt_eq, eItA_eq, eM_eq, eSl_eq, oNo_eq, oI_eq, eCh_eq, Res.bind_ok, truthD, List.getElem?_cons_succ, List.getElem?_cons_zero, i2, pEq_int, decide_eq_false c1, Bool.false_eq_true, if_false]
theorem begin_ok (ns : List Int) : ∃ x : Src, M_law_begin [.fz (ns.map D.int)] [] = .ok (.ref 0) [x.enc] ∧ x.acc = 0 := by
  obtain ⟨e', s', q, hI⟩ := forL_all (t := .nm 2) (g := (sSet 1 (e2 pMod (e2 (pAdd false) (e2 (pAdd false) (e2 (pMul false) (eV 1) (eC (.int 48271))) (e2 pMod (eA pInt (eK (eV 2) (eN))) (eC (.int 2147483629)))) (eC (.int 11))) (eC (.int 2147483647)))))
    (ds := ns.map D.int) (I := fun _ e s => (∃ (v : Int) (c : Option D), e = [some (.fz (ns.map D.int)), some (.int v), c]) ∧ s = []) (e := [some (.fz (ns.map D.int)), some (.int 5), none]) (s := []) (fun k hk e s => by
      rintro ⟨⟨v, c, rfl⟩, rfl⟩
      have hk' : k < ns.length := by simpa using hk
      have hm : ∀ i : Int, CMul i 48271 ∨ CMulW i 48271 := fun i => .inl (.inr (by decide))
      refine ⟨[some (.fz (ns.map D.int)), some (.int v), some (.int ns[k])], [some (.fz (ns.map D.int)), some (.int ((v * 48271 + ns[k].fmod 2147483629 + 11).fmod 2147483647)), some (.int ns[k])], [], ?_, ?_, ⟨_, _, rfl⟩, rfl⟩
      · rw [List.getElem_map]
        rfl
      · rw [sSet_ok (d := .int ((v * 48271 + ns[k].fmod 2147483629 + 11).fmod 2147483647)) (s' := []) (by
          simp only [eAnd_eq, eOr_eq, eNot_eq, e1_eq, e2_eq, eA_eq, eK_eq, eN_eq, eC_eq, eV_eq, eF_eq, bB_eq, bT_eq, bAnd_eq, bOr_eq, bNot_eq, eT_eq, eL_eq, eIf_eq, eIt_eq, eItA_eq, eM_eq, eSl_eq, oNo_eq, oI_eq, eCh_eq, Res.bind_ok, truthD, List.getElem?_cons_succ, List.getElem?_cons_zero, pMul, if_pos (hm v), pInt_i, pMod_c (show (1 : Int) ≤ 2147483629 by decide), pMod_c (show (1 : Int) ≤ 2147483647 by decide), pAdd])]
        rfl) ⟨⟨5, none, rfl⟩, rfl⟩
  obtain ⟨⟨v, c, rfl⟩, rfl⟩ := hI
  refine ⟨⟨ns, 0, 0, v⟩, ?_, rfl⟩
  unfold M_law_begin
  refine runD_rt ?_
  show B_law_begin [some (.fz (ns.map D.int)), none, none] [] = _
  unfold B_law_begin
  rw [sSeq_nx (sSet_ok (d := .int 5) (s' := []) rfl)]
  refine (sSeq_nx ((sFor_seq (xs := ns.map D.int) (s' := []) rfl).trans q)).trans ?_
  refine sRet_ok ?_
  simp only [eAnd_eq, eOr_eq, eNot_eq, e1_eq, e2_eq, eA_eq, eK_eq, eN_eq, eC_eq, eV_eq, eF_eq, bB_eq, bT_eq, bAnd_eq, bOr_eq, bNot_eq, eT_eq, eL_eq, eIf_eq, eIt_eq, eItA_eq, eM_eq, eSl_eq, oNo_eq, oI_eq, eCh_eq, Res.bind_ok, truthD, List.getElem?_cons_succ, List.getElem?_cons_zero, pLst, sqOf, lsq, mkL_false, mkL_true]
  rfl
/-! ### shuffles -/
def popF : Ev := (eM mPopAt (eV 2) (eK (eF 2 M_law_take (eK (eV 0) (eK (eA pLen (eK (eV 2) (eN))) (eN)))) (eN)))
theorem erase_map {α β : Type} (f : α → β) : ∀ (l : List α) (k : Nat), (l.map f).eraseIdx k = (l.eraseIdx k).map f
  | [], _ => rfl
  | _ :: _, 0 => rfl
  | x :: l, k + 1 => by simp only [List.map_cons, List.eraseIdx_cons_succ, erase_map f l k]
theorem erase_perm {α : Type} : ∀ {l : List α} {k : Nat} (h : k < l.length), (l[k] :: l.eraseIdx k).Perm l
  | x :: l, 0, _ => .refl _
  | x :: l, k + 1, h => by
    simp only [List.getElem_cons_succ, List.eraseIdx_cons_succ]
    have h' : k < l.length := by simpa using h
    exact (List.Perm.swap x l[k] (l.eraseIdx k)).trans ((erase_perm h').cons x)
theorem set4 {t : S} {R : Nat} (hR : R ≠ 0) (a b c d : List D) : (((t.set 0 a).set R b).set 0 c).set R d = (t.set 0 c).set R d := by
  rw [List.set_comm b c hR, List.set_set, List.set_set]
theorem pop_ok {R : Nat} {l : List Nat} {t : S} {x : Src} {c1 c3 : Option D} (hR : R ≠ 0) (h0 : t[0]? = some x.enc) (ha : 0 ≤ x.acc) (hl : t[R]? = some (l.map fun j : Nat => D.int j)) (h1 : 1 ≤ l.length) (h2 : l.length ≤ 1000) :
    ∃ (k : Nat) (hk : k < l.length) (x' : Src), popF [some (.ref 0), c1, some (.ref R), c3] t = .ok (.int (l[k] : Nat)) ((t.set 0 x'.enc).set R ((l.eraseIdx k).map fun j : Nat => D.int j)) ∧ 0 ≤ x'.acc := by
  obtain ⟨r, x', q, r1, r2, r3⟩ := take_ok (many := l.length) h0 ha (by omega) (by omega)
  have hk : r.toNat < l.length := by omega
  refine ⟨r.toNat, hk, x', ?_, r3⟩
  have hl' : (t.set 0 x'.enc)[R]? = some (l.map fun j : Nat => D.int j) := by rw [List.getElem?_set_ne (by omega)]; exact hl
  have hix : seqIndex? r (l.map fun j : Nat => D.int j).length = some r.toNat := by
    refine (ixN_seq (j := r.toNat) ?_).1
    unfold ixN
    rw [if_pos r1, if_pos (by rw [List.length_map]; exact r2)]
  have hb : -(2 ^ 63 : Int) ≤ r ∧ r < 2 ^ 63 := by
    have : (2 : Int) ^ 63 = 9223372036854775808 := by decide
    omega
  have hy : (l.map fun j : Nat => D.int j)[r.toNat]? = some (.int (l[r.toNat] : Nat)) := by simp [hk]
  unfold popF
  simp only [eAnd_eq, eOr_eq, eNot_eq, e1_eq, e2_eq, eA_eq, eK_eq, eN_eq, eC_eq, eV_eq, eF_eq, bB_eq, bT_eq, bAnd_eq, bOr_eq, bNot_eq, eT_eq, eL_eq, eIf_eq, eIt_eq, eItA_eq, eM_eq, eSl_eq, oNo_eq, oI_eq, eCh_eq, Res.bind_ok, truthD, List.getElem?_cons_succ, List.getElem?_cons_zero, lsw, hl, pLen, sqOf, lsq, List.length_map, List.length_cons, List.length_nil, if_true, q, mPopAt, hl', if_pos hb]
  rw [List.length_map] at hix
  simp only [hix, hy, erase_map]
theorem shuf {R : Nat} {c1 : Option D} (hR : R ≠ 0) : ∀ (ds : List D) (l : List Nat) (t : S) (x : Src), ds.length = l.length → l.length ≤ 1000 → t[0]? = some x.enc → 0 ≤ x.acc → t[R]? = some (l.map fun j : Nat => D.int j) → R < t.length →
    ∃ (o : List Nat) (x' : Src), compL (.nm 3) bYes popF ds [some (.ref 0), c1, some (.ref R), none] t = .ok (o.map fun j : Nat => D.int j) ((t.set 0 x'.enc).set R []) ∧ o.Perm l ∧ 0 ≤ x'.acc
  | [], l, t, x, hd, _, h0, ha, hl, hlt => by
    have : l = [] := List.length_eq_zero_iff.mp hd.symm
    subst this
    refine ⟨[], x, ?_, .refl _, ha⟩
    have e1 : t.set 0 x.enc = t := by
      refine List.ext_getElem? fun i => ?_
      by_cases e : i = 0
      · subst e; rw [set0 h0, h0]
      · rw [List.getElem?_set_ne (by omega)]
    have e2 : t.set R [] = t := by
      refine List.ext_getElem? fun i => ?_
      by_cases e : i = R
      · subst e; rw [hl]; simp [hlt]
      · rw [List.getElem?_set_ne (by omega)]
    rw [e1, e2]
    rfl
  | d :: ds, l, t, x, hd, hb, h0, ha, hl, hlt => by
    obtain ⟨k, hk, x1, q, a1⟩ := pop_ok (c1 := c1) (c3 := some d) hR h0 ha hl (by rw [← hd]; simp) hb
    have hlen : (l.eraseIdx k).length = l.length - 1 := List.length_eraseIdx_of_lt hk
    have g0 : ((t.set 0 x1.enc).set R ((l.eraseIdx k).map fun j : Nat => D.int j))[0]? = some x1.enc := by
      rw [List.getElem?_set_ne (by omega)]
      exact set0 h0 _
    have gR : ((t.set 0 x1.enc).set R ((l.eraseIdx k).map fun j : Nat => D.int j))[R]? = some ((l.eraseIdx k).map fun j : Nat => D.int j) := by simp [hlt]
    obtain ⟨o, x', q2, p, a2⟩ := shuf (c1 := c1) hR ds (l.eraseIdx k) _ x1 (by rw [hlen, ← hd]; simp) (by omega) g0 a1 gR (by simpa using hlt)
    refine ⟨l[k] :: o, x', ?_, ((List.Perm.cons _ p).trans (erase_perm hk)), a2⟩
    have ea : asg (.nm 3) d [some (.ref 0), c1, some (.ref R), none] = some [some (.ref 0), c1, some (.ref R), some d] := rfl
    simp only [compL, ea, bYes, noX_ok, Res.bind_ok, if_true, q, q2]
    rw [set4 hR]
    rfl
theorem shuffled_ok {n : Nat} {s : S} {x : Src} (h1 : 1 ≤ n) (h5 : n ≤ 5) (h0 : s[0]? = some x.enc) (ha : 0 ≤ x.acc) : ∃ (o : List Nat) (x' : Src), M_law_shuffled [.ref 0, .int n] s = .ok (encO o) (s.set 0 x'.enc ++ [[]]) ∧ Ord n o ∧ 0 ≤ x'.acc := by
  have hs : 0 < s.length := (List.getElem?_eq_some_iff.mp h0).1
  have hL : (eA (pLRg true) (eK (eV 1) (eN))) [some (.ref 0), some (.int n), none, none] s = .ok (.ref s.length) (s ++ [(List.range n).map fun j : Nat => D.int j]) := by
    have hc : -(2 ^ 62 : Int) ≤ n ∧ (n : Int) ≤ 16777216 := by
      have : (2 : Int) ^ 62 = 4611686018427387904 := by decide
      omega
    simp only [eAnd_eq, eOr_eq, eNot_eq, e1_eq, e2_eq, eA_eq, eK_eq, eN_eq, eC_eq, eV_eq, eF_eq, bB_eq, bT_eq, bAnd_eq, bOr_eq, bNot_eq, eT_eq, eL_eq, eIf_eq, eIt_eq, eItA_eq, eM_eq, eSl_eq, oNo_eq, oI_eq, eCh_eq, Res.bind_ok, truthD, List.getElem?_cons_succ, List.getElem?_cons_zero, pLRg, if_pos hc, mkL_true, Int.toNat_natCast]
    congr 3
    exact List.map_congr_left fun i _ => by simp
  obtain ⟨o, x', q, p, a⟩ := shuf (R := s.length) (c1 := some (.int n)) (by omega) ((List.range n).map fun i : Nat => D.int i) (List.range n) (s ++ [(List.range n).map fun j : Nat => D.int j]) x (by simp) (by simp; omega) (by rw [List.getElem?_append_left hs]; exact h0) ha (by simp) (by simp)
  refine ⟨o, x', ?_, ⟨by simpa using p.length_eq, p.nodup_iff.mpr List.nodup_range, fun y hy => List.mem_range.mp (p.mem_iff.mp hy)⟩, a⟩
  unfold M_law_shuffled
  refine runD_rt ?_
  show B_law_shuffled [some (.ref 0), some (.int n), none, none] s = _
  unfold B_law_shuffled
  refine (sSeq_nx (sSet_ok hL)).trans ?_
  refine sRet_ok ?_
  have hC : eLc false (eItA pRng1 (eK (eV 1) (eN))) [3] (.nm 3) bYes popF [some (.ref 0), some (.int n), some (.ref s.length), none] (s ++ [(List.range n).map fun j : Nat => D.int j]) = .ok (.lst (o.map fun j : Nat => D.int j)) (((s ++ [(List.range n).map fun j : Nat => D.int j]).set 0 x'.enc).set s.length []) := by
    rw [eLc_seq (xs := (List.range n).map fun i : Nat => D.int i) (s' := s ++ [(List.range n).map fun j : Nat => D.int j]) (by
      simp only [eAnd_eq, eOr_eq, eNot_eq, e1_eq, e2_eq, eA_eq, eK_eq, eN_eq, eC_eq, eV_eq, eF_eq, bB_eq, bT_eq, bAnd_eq, bOr_eq, bNot_eq, eT_eq, eL_eq, eIf_eq, eIt_eq, eItA_eq, eM_eq, eSl_eq, oNo_eq, oI_eq, eCh_eq, Res.bind_ok, truthD, List.getElem?_cons_succ, List.getElem?_cons_zero]
      exact pRng1_nat (by omega) _) (by simp; exact Nat.le_trans h5 (by decide))]
    rw [show wipeE [some (.ref 0), some (.int n), some (.ref s.length), none] [3] = [some (.ref 0), some (.int (n : Int)), some (.ref s.length), none] from rfl, q]
    simp only [Res.bind_ok, mkL_false]
  unfold popF at hC
  rw [show ([some (.ref 0), some (.int n), none, none] : En).set 2 (some (.ref s.length)) = [some (.ref 0), some (.int (n : Int)), some (.ref s.length), none] from rfl, eA_eq, eK_eq, hC]
  simp only [Res.bind_ok, eN_eq, pTup, lsq]
  unfold encO
  refine congrArg (Res.ok _) ?_
  refine List.ext_getElem? fun i => ?_
  by_cases e : i = s.length
  · subst e; simp
  · rw [List.getElem?_set_ne (by omega)]
    by_cases e2 : i < s.length
    · rw [List.set_append_left _ _ hs, List.getElem?_append_left (by simpa using e2), List.getElem?_append_left (by simpa using e2)]
    · rw [List.getElem?_eq_none_iff.mpr (by simp; omega), List.getElem?_eq_none_iff.mpr (by simp; omega)]
end K54

set_option linter.all false
set_option maxRecDepth 100000
set_option maxHeartbeats 1000000
/-! k54: the law's tables. Plain Lean. -/
namespace K54
open PySem L2 Cf
theorem rng_ints {n j : Nat} {g : Nat → Int} {fi : Ei} {c : Ev} {e : En} {s : S} (h : fi e s = .ok (.seq ((List.range n).map fun k : Nat => D.int k)) s) (hn : n ≤ 1000) (hc : ∀ i, i < n → c ((wipeE e [j]).set j (some (.int (i : Nat)))) s = .ok (.int (g i)) s) : eLc false fi [j] (.nm j) bYes c e s = .ok (.lst ((rowI n g).map D.int)) s := by
  rw [eLc_map (F := fun d => match d with | .int i => .int (g i.toNat) | _ => .non) h (by simp; exact Nat.le_trans hn (by decide)) fun d hd => by
    obtain ⟨i, hi, rfl⟩ := List.mem_map.mp hd
    exact ⟨_, rfl, hc i (List.mem_range.mp hi)⟩]
  simp only [mkL_false]
  rw [rowI, List.map_map, List.map_map]
  rfl
theorem map_ints {xs : List Int} {j : Nat} {g : Int → Int} {fi : Ei} {c : Ev} {e : En} {s : S} (h : fi e s = .ok (.seq (xs.map D.int)) s) (hn : xs.length ≤ 1000) (hc : ∀ x, x ∈ xs → c ((wipeE e [j]).set j (some (.int x))) s = .ok (.int (g x)) s) : eLc false fi [j] (.nm j) bYes c e s = .ok (.lst ((xs.map g).map D.int)) s := by
  rw [eLc_map (F := fun d => match d with | .int i => .int (g i) | _ => .non) h (by simp; exact Nat.le_trans hn (by decide)) fun d hd => by
    obtain ⟨i, hi, rfl⟩ := List.mem_map.mp hd
    exact ⟨_, rfl, hc i hi⟩]
  simp only [mkL_false]
  rw [List.map_map, List.map_map]
  rfl
/-- cells past the first two stand as they were -/
def Fr (s s' : S) : Prop := s.length ≤ s'.length ∧ ∀ k, 2 ≤ k → k < s.length → s'[k]? = s[k]?
def envL (c0 : Option D) (n : Nat) (c4 c5 c6 c7 c8 : Option D) (r : List (Option D)) : En := c0 :: some (.ref 0) :: some (.int n) :: some (.ref 1) :: c4 :: c5 :: c6 :: c7 :: c8 :: r
def no16 : List (Option D) := List.replicate 16 none
def incB : Es := (sStore (e2 (pAdd false) (e2 pIx (e2 pIx (eV 5) (eV 8)) (e2 pIx (eV 7) (eV 8))) (eC (.int 1))) (e2 pIx (eV 5) (eV 8)) (e2 pIx (eV 7) (eV 8)))
theorem inc_ok {c0 c4 c6 c8 : Option D} {n : Nat} {s0 t : S} {a : Nat → Nat → Int} {o : List Nat} {r : List (Option D)} (h5 : n ≤ 5) (ho : Ord n o) : ∃ c8', (sFor (eItA pRng1 (eK (eV 2) (eN))) (.nm 8) incB) (envL c0 n c4 (some (.lst (refs s0.length n))) c6 (some (encO o)) c8 r) (s0 ++ mat n a ++ t) = .ok (.nx (envL c0 n c4 (some (.lst (refs s0.length n))) c6 (some (encO o)) c8' r)) (s0 ++ mat n (take1 a o (-1)) ++ t) := by
  obtain ⟨e', s', q, hI⟩ := forL_all (t := .nm 8) (g := incB) (ds := (List.range n).map fun k : Nat => D.int k) (I := fun k e s' => (∃ c, e = envL c0 n c4 (some (.lst (refs s0.length n))) c6 (some (encO o)) c r) ∧ s' = s0 ++ mat n (stepA a o (-1) k) ++ t)
    (e := envL c0 n c4 (some (.lst (refs s0.length n))) c6 (some (encO o)) c8 r) (s := s0 ++ mat n a ++ t) (fun k hk e s' => by
      rintro ⟨⟨c, rfl⟩, rfl⟩
      have hk' : k < n := by simpa using hk
      have hoj := ho.lt' hk'
      have hrow : (s0 ++ mat n (stepA a o (-1) k) ++ t)[s0.length + k]? = some ((rowI n (stepA a o (-1) k k)).map D.int) := st_get hk' s0 t
      have ho2 : (o.map fun j : Nat => D.int j)[k]? = some (.int (o.getD k 0 : Nat)) := by
        have : k < o.length := by rw [ho.len]; exact hk'
        simp [List.getD, this]
      refine ⟨envL c0 n c4 (some (.lst (refs s0.length n))) c6 (some (encO o)) (some (.int k)) r, envL c0 n c4 (some (.lst (refs s0.length n))) c6 (some (encO o)) (some (.int k)) r, s0 ++ mat n (stepA a o (-1) (k + 1)) ++ t, ?_, ?_, ⟨_, rfl⟩, rfl⟩
      · rw [List.getElem_map, List.getElem_range]
        rfl
      · have e5 : (e2 pIx (eV 5) (eV 8)) (envL c0 n c4 (some (.lst (refs s0.length n))) c6 (some (encO o)) (some (.int k)) r) (s0 ++ mat n (stepA a o (-1) k) ++ t) = .ok (.ref (s0.length + k)) (s0 ++ mat n (stepA a o (-1) k) ++ t) := by
          simp only [eAnd_eq, eOr_eq, eNot_eq, e1_eq, e2_eq, eA_eq, eK_eq, eN_eq, eC_eq, eV_eq, eF_eq, bB_eq, bT_eq, bAnd_eq, bOr_eq, bNot_eq, eT_eq, eL_eq, eIf_eq, eIt_eq, eItA_eq, eM_eq, eSl_eq, oNo_eq, oI_eq, eCh_eq, Res.bind_ok, truthD, envL, List.getElem?_cons_succ, List.getElem?_cons_zero, pIx_refs hk']
        have e7 : (e2 pIx (eV 7) (eV 8)) (envL c0 n c4 (some (.lst (refs s0.length n))) c6 (some (encO o)) (some (.int k)) r) (s0 ++ mat n (stepA a o (-1) k) ++ t) = .ok (.int (o.getD k 0 : Nat)) (s0 ++ mat n (stepA a o (-1) k) ++ t) := by
          simp only [eAnd_eq, eOr_eq, eNot_eq, e1_eq, e2_eq, eA_eq, eK_eq, eN_eq, eC_eq, eV_eq, eF_eq, bB_eq, bT_eq, bAnd_eq, bOr_eq, bNot_eq, eT_eq, eL_eq, eIf_eq, eIt_eq, eItA_eq, eM_eq, eSl_eq, oNo_eq, oI_eq, eCh_eq, Res.bind_ok, truthD, envL, List.getElem?_cons_succ, List.getElem?_cons_zero, encO]
          exact pIx_atT ho2 _
        unfold incB
        refine sStore_ok (v := .int (stepA a o (-1) k k (o.getD k 0) + 1)) (o := .ref (s0.length + k)) (i := .int (o.getD k 0 : Nat)) (s1 := s0 ++ mat n (stepA a o (-1) k) ++ t) (s2 := s0 ++ mat n (stepA a o (-1) k) ++ t) (s3 := s0 ++ mat n (stepA a o (-1) k) ++ t) ?_ e5 e7 ?_
        · rw [e2_eq, e2_eq, e5]
          simp only [Res.bind_ok]
          rw [e7]
          simp only [Res.bind_ok, pIx_row hrow hoj, eC_eq, pAdd]
        · rw [setD_nat hrow (by simp [rowI]; exact hoj), st_set hk']
          congr 3
          refine mat_congr fun i j hi hj => ?_
          unfold upd2 stepA
          by_cases c1 : i = k ∧ j = o.getD k 0
          · obtain ⟨rfl, rfl⟩ := c1
            rw [if_pos ⟨rfl, rfl⟩, if_neg (by omega), if_pos ⟨by omega, rfl⟩]
            omega
          · rw [if_neg c1]
            by_cases c2 : i < k ∧ o.getD i 0 = j
            · rw [if_pos c2, if_pos ⟨by omega, c2.2⟩]
            · rw [if_neg c2, if_neg fun c => by
                by_cases e : i = k
                · subst e; exact c1 ⟨rfl, c.2.symm⟩
                · exact c2 ⟨by omega, c.2⟩]) ⟨⟨c8, rfl⟩, by
        rw [mat_congr (a := a) (b := stepA a o (-1) 0) fun i j _ _ => by unfold stepA; rw [if_neg (by omega)]]⟩
  obtain ⟨⟨c, rfl⟩, rfl⟩ := hI
  refine ⟨c, ?_⟩
  refine (sFor_seq (xs := (List.range n).map fun k : Nat => D.int k) (s' := s0 ++ mat n a ++ t) (by
    simp only [eAnd_eq, eOr_eq, eNot_eq, e1_eq, e2_eq, eA_eq, eK_eq, eN_eq, eC_eq, eV_eq, eF_eq, bB_eq, bT_eq, bAnd_eq, bOr_eq, bNot_eq, eT_eq, eL_eq, eIf_eq, eIt_eq, eItA_eq, eM_eq, eSl_eq, oNo_eq, oI_eq, eCh_eq, Res.bind_ok, truthD, envL, List.getElem?_cons_succ, List.getElem?_cons_zero]
    exact pRng1_nat (by omega) _)).trans (q.trans ?_)
  congr 3
  refine mat_congr fun i j hi hj => ?_
  simp only [List.length_map, List.length_range]
  unfold stepA take1
  by_cases c : o.getD i 0 = j
  · rw [if_pos ⟨hi, c⟩, if_pos c]
  · rw [if_neg fun h => c h.2, if_neg c]; omega
def turnB : Es := (sSeq (sSet 7 (eF 2 M_law_shuffled (eK (eV 1) (eK (eV 2) (eN))))) (sFor (eItA pRng1 (eK (eV 2) (eN))) (.nm 8) incB))
theorem turns_ok {c0 c4 c6 c7 c8 : Option D} {n : Nat} {s0 : S} {x : Src} {r : List (Option D)} (h1 : 1 ≤ n) (h5 : n ≤ 5) (h0 : s0[0]? = some x.enc) (ha : 0 ≤ x.acc) (m : Nat) : ∃ (x' : Src) (t : S) (a : Nat → Nat → Int) (d6 d7 d8 : Option D),
    forL (.nm 6) turnB ((List.range m).map fun k : Nat => D.int k) (envL c0 n c4 (some (.lst (refs s0.length n))) c6 c7 c8 r) (s0 ++ mat n (fun _ _ => 0)) = .ok (.nx (envL c0 n c4 (some (.lst (refs s0.length n))) d6 d7 d8 r)) (s0.set 0 x'.enc ++ mat n a ++ t) ∧ Eqs n m a ∧ 0 ≤ x'.acc := by
  have hs : 0 < s0.length := (List.getElem?_eq_some_iff.mp h0).1
  obtain ⟨e', s', q, hI⟩ := forL_all (t := .nm 6) (g := turnB) (ds := (List.range m).map fun k : Nat => D.int k)
    (I := fun k e s' => ∃ (x' : Src) (t : S) (a : Nat → Nat → Int) (d6 d7 d8 : Option D), e = envL c0 n c4 (some (.lst (refs s0.length n))) d6 d7 d8 r ∧ s' = s0.set 0 x'.enc ++ mat n a ++ t ∧ Eqs n k a ∧ 0 ≤ x'.acc)
    (e := envL c0 n c4 (some (.lst (refs s0.length n))) c6 c7 c8 r) (s := s0 ++ mat n (fun _ _ => 0)) (fun k hk e s' => by
      rintro ⟨x1, t, a, d6, d7, d8, rfl, rfl, hE, hx⟩
      have g0 : (s0.set 0 x1.enc ++ mat n a ++ t)[0]? = some x1.enc := by
        rw [List.append_assoc, List.getElem?_append_left (by simpa using hs)]
        exact set0 h0 _
      obtain ⟨o, x2, q1, ho, hx2⟩ := shuffled_ok h1 h5 g0 hx
      have hset : (s0.set 0 x1.enc ++ mat n a ++ t).set 0 x2.enc ++ [[]] = s0.set 0 x2.enc ++ mat n a ++ (t ++ [[]]) := by
        rw [List.append_assoc, List.set_append_left _ _ (by simpa using hs), List.set_set, List.append_assoc, List.append_assoc, List.append_assoc]
      rw [hset] at q1
      obtain ⟨c8', q2⟩ := inc_ok (c0 := c0) (c4 := c4) (c6 := some (.int k)) (c8 := d8) (s0 := s0.set 0 x2.enc) (t := t ++ [[]]) (a := a) (r := r) h5 ho
      rw [List.length_set] at q2
      refine ⟨envL c0 n c4 (some (.lst (refs s0.length n))) (some (.int k)) d7 d8 r, _, _, ?_, ?_, ⟨x2, t ++ [[]], take1 a o (-1), some (.int k), some (encO o), c8', rfl, rfl, ?_, hx2⟩⟩
      · rw [List.getElem_map, List.getElem_range]
        rfl
      · unfold turnB
        rw [sSeq_nx (sSet_ok (d := encO o) (s' := s0.set 0 x2.enc ++ mat n a ++ (t ++ [[]])) (by
          simp only [eAnd_eq, eOr_eq, eNot_eq, e1_eq, e2_eq, eA_eq, eK_eq, eN_eq, eC_eq, eV_eq, eF_eq, bB_eq, bT_eq, bAnd_eq, bOr_eq, bNot_eq, eT_eq, eL_eq, eIf_eq, eIt_eq, eItA_eq, eM_eq, eSl_eq, oNo_eq, oI_eq, eCh_eq, Res.bind_ok, truthD, envL, List.getElem?_cons_succ, List.getElem?_cons_zero, List.length_cons, List.length_nil]
          exact q1))]
        exact q2
      · have := hE.take (z := -1) ho fun i hi => by have := hE.nn i (o.getD i 0) hi (ho.lt' hi); omega
        rwa [show ((k : Int) - -1) = ((k + 1 : Nat) : Int) by omega] at this) ⟨x, [], fun _ _ => 0, c6, c7, c8, rfl, by
        rw [List.append_nil]
        congr 1
        refine (List.ext_getElem? fun i => ?_).symm
        by_cases e : i = 0
        · subst e; rw [set0 h0, h0]
        · rw [List.getElem?_set_ne (by omega)], Eqs.zero n, ha⟩
  obtain ⟨x', t, a, d6, d7, d8, rfl, rfl, hE, hx⟩ := hI
  rw [List.length_map, List.length_range] at hE
  exact ⟨x', t, a, d6, d7, d8, q, hE, hx⟩
def tableB : Es := (sSeq (sSet 5 (eLc false (eItA pRng1 (eK (eV 2) (eN))) [8] (.nm 8) bYes (e2 (pMul true) (eL false (eK (eC (.int 0)) (eN))) (eV 2))))
  (sSeq (sFor (eItA pRng1 (eK (e2 (pAdd false) (eC (.int 1)) (eF 2 M_law_take (eK (eV 1) (eK (eC (.int 4)) (eN))))) (eN))) (.nm 6) turnB)
  (sExpr (eM mApp (eV 3) (eK (eV 5) (eN))))))
theorem zeros_ok {c0 c4 c5 c6 c7 c8 : Option D} {n : Nat} {s : S} {r : List (Option D)} (h5 : n ≤ 5) : (eLc false (eItA pRng1 (eK (eV 2) (eN))) [8] (.nm 8) bYes (e2 (pMul true) (eL false (eK (eC (.int 0)) (eN))) (eV 2))) (envL c0 n c4 c5 c6 c7 c8 r) s = .ok (.lst (refs s.length n)) (s ++ mat n (fun _ _ => 0)) := by
  rw [eLc_seq (xs := (List.range n).map fun k : Nat => D.int k) (s' := s) (by
    simp only [eAnd_eq, eOr_eq, eNot_eq, e1_eq, e2_eq, eA_eq, eK_eq, eN_eq, eC_eq, eV_eq, eF_eq, bB_eq, bT_eq, bAnd_eq, bOr_eq, bNot_eq, eT_eq, eL_eq, eIf_eq, eIt_eq, eItA_eq, eM_eq, eSl_eq, oNo_eq, oI_eq, eCh_eq, Res.bind_ok, truthD, envL, List.getElem?_cons_succ, List.getElem?_cons_zero]
    exact pRng1_nat (by omega) _) (by simp; exact Nat.le_trans h5 (by decide))]
  rw [compL_alloc (F := fun _ => (rowI n fun _ => 0).map D.int) fun d hd s => by
    obtain ⟨i, hi, rfl⟩ := List.mem_map.mp hd
    refine ⟨_, rfl, ?_⟩
    have hc : -(2 ^ 63 : Int) ≤ n ∧ (n : Int) < 2 ^ 63 ∧ [D.int 0].length * n ≤ sizeLine := by
      have : (2 : Int) ^ 63 = 9223372036854775808 := by decide
      refine ⟨by omega, by omega, ?_⟩
      rw [List.length_singleton, Nat.one_mul]
      exact Nat.le_trans h5 (by decide)
    simp only [eAnd_eq, eOr_eq, eNot_eq, e1_eq, e2_eq, eA_eq, eK_eq, eN_eq, eC_eq, eV_eq, eF_eq, bB_eq, bT_eq, bAnd_eq, bOr_eq, bNot_eq, eT_eq, eL_eq, eIf_eq, eIt_eq, eItA_eq, eM_eq, eSl_eq, oNo_eq, oI_eq, eCh_eq, Res.bind_ok, truthD, envL, wipeE, List.set_cons_succ, List.set_cons_zero, List.getElem?_cons_succ, List.getElem?_cons_zero, mkL_false, pMul, lsw, if_pos hc, mkL_true, Int.toNat_natCast]
    have e : (List.replicate n [D.int 0]).flatten = (rowI n fun _ => 0).map D.int := by
      refine List.ext_getElem (by simp [rowI]) fun k h1 h2 => ?_
      simp [rowI]
    rw [e]]
  simp only [Res.bind_ok, mkL_false, List.length_map, List.length_range, List.map_map]
  rfl
theorem table_ok {c0 c4 c5 c6 c7 c8 : Option D} {n : Nat} {s : S} {x : Src} {ts : List D} {r : List (Option D)} (h1 : 1 ≤ n) (h5 : n ≤ 5) (h0 : s[0]? = some x.enc) (ha : 0 ≤ x.acc) (hts : s[1]? = some ts) (hl : ts.length ≤ 2) : ∃ (x' : Src) (s' : S) (a : Nat → Nat → Int) (m : Nat) (d5 d6 d7 d8 : Option D),
    tableB (envL c0 n c4 c5 c6 c7 c8 r) s = .ok (.nx (envL c0 n c4 d5 d6 d7 d8 r)) s' ∧ s'[0]? = some x'.enc ∧ 0 ≤ x'.acc ∧ s'[1]? = some (ts ++ [.lst (refs s.length n)]) ∧ Fr s s' ∧ (∀ i, i < n → s'[s.length + i]? = some ((rowI n (a i)).map D.int)) ∧ s.length + n ≤ s'.length ∧ Eqs n m a ∧ m ≤ 4 := by
  have hs : 1 < s.length := (List.getElem?_eq_some_iff.mp hts).1
  have g0 : (s ++ mat n (fun _ _ => 0))[0]? = some x.enc := by rw [List.getElem?_append_left (by omega)]; exact h0
  obtain ⟨v, x1, q1, v0, v1, hx1⟩ := take_ok (many := 4) g0 ha (by decide) (by decide)
  have hset : (s ++ mat n (fun _ _ => 0)).set 0 x1.enc = s.set 0 x1.enc ++ mat n (fun _ _ => 0) := List.set_append_left _ _ (by omega)
  rw [hset] at q1
  obtain ⟨x2, t, a, d6, d7, d8, q2, hE, hx2⟩ := turns_ok (c0 := c0) (c4 := c4) (c6 := c6) (c7 := c7) (c8 := c8) (s0 := s.set 0 x1.enc) (r := r) h1 h5 (set0 h0 _) hx1 (v.toNat + 1)
  rw [List.length_set, List.set_set] at q2
  have hts2 : (s.set 0 x2.enc ++ mat n a ++ t)[1]? = some ts := by
    rw [List.append_assoc, List.getElem?_append_left (by rw [List.length_set]; exact hs), List.getElem?_set_ne (by omega)]
    exact hts
  refine ⟨x2, (s.set 0 x2.enc ++ mat n a ++ t).set 1 (ts ++ [.lst (refs s.length n)]), a, v.toNat + 1, some (.lst (refs s.length n)), d6, d7, d8, ?_, ?_, hx2, ?_, ⟨?_, fun k k2 hk => ?_⟩, fun i hi => ?_, ?_, hE, by omega⟩
  · unfold tableB
    refine (sSeq_nx (sSet_ok (zeros_ok h5))).trans ?_
    refine (sSeq_nx ((sFor_seq (xs := (List.range (v.toNat + 1)).map fun k : Nat => D.int k) (s' := s.set 0 x1.enc ++ mat n (fun _ _ => 0)) ?_).trans q2)).trans ?_
    · show (eItA pRng1 (eK (e2 (pAdd false) (eC (.int 1)) (eF 2 M_law_take (eK (eV 1) (eK (eC (.int 4)) (eN))))) (eN))) (envL c0 n c4 (some (.lst (refs s.length n))) c6 c7 c8 r) (s ++ mat n (fun _ _ => 0)) = _
      simp only [eAnd_eq, eOr_eq, eNot_eq, e1_eq, e2_eq, eA_eq, eK_eq, eN_eq, eC_eq, eV_eq, eF_eq, bB_eq, bT_eq, bAnd_eq, bOr_eq, bNot_eq, eT_eq, eL_eq, eIf_eq, eIt_eq, eItA_eq, eM_eq, eSl_eq, oNo_eq, oI_eq, eCh_eq, Res.bind_ok, truthD, envL, List.getElem?_cons_succ, List.getElem?_cons_zero, List.length_cons, List.length_nil, if_true, q1, pAdd]
      rw [show (1 + v : Int) = ((v.toNat + 1 : Nat) : Int) by omega]
      exact pRng1_nat (by omega) _
    · refine sExpr_ok (d := .non) ?_
      have hlt : ts.length < sizeLine := Nat.lt_of_le_of_lt hl (by decide)
      simp only [eAnd_eq, eOr_eq, eNot_eq, e1_eq, e2_eq, eA_eq, eK_eq, eN_eq, eC_eq, eV_eq, eF_eq, bB_eq, bT_eq, bAnd_eq, bOr_eq, bNot_eq, eT_eq, eL_eq, eIf_eq, eIt_eq, eItA_eq, eM_eq, eSl_eq, oNo_eq, oI_eq, eCh_eq, Res.bind_ok, truthD, envL, List.getElem?_cons_succ, List.getElem?_cons_zero, lsw, hts2, mApp, if_pos hlt]
  · rw [List.getElem?_set_ne (by omega), List.append_assoc, List.getElem?_append_left (by rw [List.length_set]; omega)]
    exact set0 h0 _
  · have : 1 < (s.set 0 x2.enc ++ mat n a ++ t).length := (List.getElem?_eq_some_iff.mp hts2).1
    simp only [List.getElem?_set, this, if_true]
  · simp only [List.length_set, List.length_append]; omega
  · rw [List.getElem?_set_ne (by omega), List.append_assoc, List.getElem?_append_left (by rw [List.length_set]; omega), List.getElem?_set_ne (by omega)]
  · rw [List.getElem?_set_ne (by omega)]
    have := st_get (a := a) hi (s.set 0 x2.enc) t
    rwa [List.length_set] at this
  · simp only [List.length_set, List.length_append, mat_len]; omega
end K54

set_option linter.all false
set_option maxRecDepth 100000
set_option maxHeartbeats 1000000
/-! k54: the law. Plain Lean. -/
namespace K54
open PySem L2 Cf
structure Tb (n b0 b1 : Nat) (a0 a1 : Nat → Nat → Int) (s : S) : Prop where
  ts : s[1]? = some [.lst (refs b0 n), .lst (refs b1 n)]
  r0 : ∀ i, i < n → s[b0 + i]? = some ((rowI n (a0 i)).map D.int)
  r1 : ∀ i, i < n → s[b1 + i]? = some ((rowI n (a1 i)).map D.int)
theorem app_some {α : Type} {s t : List α} {k : Nat} {v : α} (h : s[k]? = some v) : (s ++ t)[k]? = some v := by
  rw [List.getElem?_append_left (List.getElem?_eq_some_iff.mp h).1]; exact h
theorem Tb.ext {n b0 b1 : Nat} {a0 a1 : Nat → Nat → Int} {s : S} (h : Tb n b0 b1 a0 a1 s) (t : S) : Tb n b0 b1 a0 a1 (s ++ t) := ⟨app_some h.ts, fun i hi => app_some (h.r0 i hi), fun i hi => app_some (h.r1 i hi)⟩
theorem Tb.p0 {n b0 b1 : Nat} {a0 a1 : Nat → Nat → Int} {s : S} (h : Tb n b0 b1 a0 a1 s) : pIx (.ref 1) (.int 0) s = .ok (.lst (refs b0 n)) s := by
  have e : atI [D.lst (refs b0 n), D.lst (refs b1 n)] 0 = some (.lst (refs b0 n)) := rfl
  simp only [pIx, sqOf, lsq, h.ts, e]
theorem Tb.p1 {n b0 b1 : Nat} {a0 a1 : Nat → Nat → Int} {s : S} (h : Tb n b0 b1 a0 a1 s) : pIx (.ref 1) (.int 1) s = .ok (.lst (refs b1 n)) s := by
  have e : atI [D.lst (refs b0 n), D.lst (refs b1 n)] 1 = some (.lst (refs b1 n)) := rfl
  simp only [pIx, sqOf, lsq, h.ts, e]
theorem pMul_l {i : Int} (h : 0 ≤ i) (h2 : i ≤ 1000) (j : Int) (s : S) : pMul false (.int i) (.int j) s = .ok (.int (i * j)) s := by
  have : CMul i j ∨ CMulW i j := .inl (.inl ⟨by have : (2 : Int) ^ 64 = 18446744073709551616 := by decide
                                                omega, by have : (2 : Int) ^ 64 = 18446744073709551616 := by decide
                                                          omega⟩)
  simp only [pMul, if_pos this]
theorem pMul_r {j : Int} (h : -1000 ≤ j) (h2 : j ≤ 1000) (i : Int) (s : S) : pMul false (.int i) (.int j) s = .ok (.int (i * j)) s := by
  have : CMul i j ∨ CMulW i j := .inl (.inr ⟨by have : (2 : Int) ^ 64 = 18446744073709551616 := by decide
                                                omega, by have : (2 : Int) ^ 64 = 18446744073709551616 := by decide
                                                          omega⟩)
  simp only [pMul, if_pos this]
theorem app_ok {n b m : Nat} {a : Nat → Nat → Int} {x : List Int} {e : En} {s : S} (tk : Int) (v : Nat) (h2 : e[2]? = some (some (.int n))) (h3 : e[3]? = some (some (.ref 1))) (hv : e[v]? = some (some (.lst (x.map D.int)))) (hv8 : v ≠ 8) (hv21 : v ≠ 21) (hlen : e.length = 25) (h5 : n ≤ 5)
    (ht : pIx (.ref 1) (.int tk) s = .ok (.lst (refs b n)) s) (hr : ∀ i, i < n → s[b + i]? = some ((rowI n (a i)).map D.int)) (hE : Eqs n m a) (hm : m ≤ 4) (hx : x.length = n) :
    (eLc false (eItA pRng1 (eK (eV 2) (eN))) [8] (.nm 8) bYes (eA pSum (eK (eLc false (eItA pRng1 (eK (eV 2) (eN))) [21] (.nm 21) bYes (e2 (pMul false) (e2 pIx (e2 pIx (e2 pIx (eV 3) (eC (.int tk))) (eV 8)) (eV 21)) (e2 pIx (eV v) (eV 21)))) (eN)))) e s = .ok (.lst ((app n a x).map D.int)) s := by
  refine rng_ints (g := fun i => sg (fun j => a i j * x.getD j 0) n) (by simp only [eAnd_eq, eOr_eq, eNot_eq, e1_eq, e2_eq, eA_eq, eK_eq, eN_eq, eC_eq, eV_eq, eF_eq, bB_eq, bT_eq, bAnd_eq, bOr_eq, bNot_eq, eT_eq, eL_eq, eIf_eq, eIt_eq, eItA_eq, eM_eq, eSl_eq, oNo_eq, oI_eq, eCh_eq, Res.bind_ok, truthD, h2]; exact pRng1_nat (by omega) _) (by omega) fun i hi => ?_
  have hin := rng_ints (n := n) (j := 21) (g := fun j => a i j * x.getD j 0) (fi := eItA pRng1 (eK (eV 2) (eN))) (c := (e2 (pMul false) (e2 pIx (e2 pIx (e2 pIx (eV 3) (eC (.int tk))) (eV 8)) (eV 21)) (e2 pIx (eV v) (eV 21)))) (e := (wipeE e [8]).set 8 (some (.int (i : Nat)))) (s := s) (by
      have : ((wipeE e [8]).set 8 (some (.int (i : Nat))))[2]? = some (some (.int n)) := by simp [wipeE, h2]
      simp only [eAnd_eq, eOr_eq, eNot_eq, e1_eq, e2_eq, eA_eq, eK_eq, eN_eq, eC_eq, eV_eq, eF_eq, bB_eq, bT_eq, bAnd_eq, bOr_eq, bNot_eq, eT_eq, eL_eq, eIf_eq, eIt_eq, eItA_eq, eM_eq, eSl_eq, oNo_eq, oI_eq, eCh_eq, Res.bind_ok, truthD, this]; exact pRng1_nat (by omega) _) (by omega) fun j hj => by
    have k3 : ((wipeE ((wipeE e [8]).set 8 (some (.int (i : Nat)))) [21]).set 21 (some (.int (j : Nat))))[3]? = some (some (.ref 1)) := by simp [wipeE, h3]
    have k8 : ((wipeE ((wipeE e [8]).set 8 (some (.int (i : Nat)))) [21]).set 21 (some (.int (j : Nat))))[8]? = some (some (.int i)) := by simp [wipeE, hlen]
    have k21 : ((wipeE ((wipeE e [8]).set 8 (some (.int (i : Nat)))) [21]).set 21 (some (.int (j : Nat))))[21]? = some (some (.int j)) := by simp [wipeE, hlen]
    have kv : ((wipeE ((wipeE e [8]).set 8 (some (.int (i : Nat)))) [21]).set 21 (some (.int (j : Nat))))[v]? = some (some (.lst (x.map D.int))) := by
      simp only [wipeE]
      rw [List.getElem?_set_ne (by omega), List.getElem?_set_ne (by omega), List.getElem?_set_ne (by omega), List.getElem?_set_ne (by omega), hv]
    have hb := hE.nn i j hi hj
    have hb2 := hE.le hi hj
    simp only [eAnd_eq, eOr_eq, eNot_eq, e1_eq, e2_eq, eA_eq, eK_eq, eN_eq, eC_eq, eV_eq, eF_eq, bB_eq, bT_eq, bAnd_eq, bOr_eq, bNot_eq, eT_eq, eL_eq, eIf_eq, eIt_eq, eItA_eq, eM_eq, eSl_eq, oNo_eq, oI_eq, eCh_eq, Res.bind_ok, truthD, k3, k8, k21, kv, ht, pIx_refs hi, pIx_row (hr i hi) hj, pIx_nat x (show j < x.length by omega), pMul_l hb (by omega)]
  rw [eA_eq, eK_eq, hin]
  simp only [Res.bind_ok, eN_eq, pSum_lst, rowI_sum]
theorem scale_ok {xs : List Int} {c : Int} {v k : Nat} {e : En} {s : S} (hs : (eIt itSq (eV v)) e s = .ok (.seq (xs.map D.int)) s) (hk : e[k]? = some (some (.int c))) (hk2 : k ≠ 22) (hlen : e.length = 25) (hx : xs.length ≤ 5) (c0 : 0 ≤ c) (c1 : c ≤ 1000) :
    (eA pTup (eK (eLc false (eIt itSq (eV v)) [22] (.nm 22) bYes (e2 (pMul false) (eV k) (eV 22))) (eN))) e s = .ok (.tup ((xs.map (c * ·)).map D.int)) s := by
  have h := map_ints (j := 22) (g := (c * ·)) (c := (e2 (pMul false) (eV k) (eV 22))) hs (by omega) fun x _ => by
    have kk : ((wipeE e [22]).set 22 (some (.int x)))[k]? = some (some (.int c)) := by
      simp only [wipeE]
      rw [List.getElem?_set_ne (by omega), List.getElem?_set_ne (by omega), hk]
    have k22 : ((wipeE e [22]).set 22 (some (.int x)))[22]? = some (some (.int x)) := by simp [wipeE, hlen]
    simp only [eAnd_eq, eOr_eq, eNot_eq, e1_eq, e2_eq, eA_eq, eK_eq, eN_eq, eC_eq, eV_eq, eF_eq, bB_eq, bT_eq, bAnd_eq, bOr_eq, bNot_eq, eT_eq, eL_eq, eIf_eq, eIt_eq, eItA_eq, eM_eq, eSl_eq, oNo_eq, oI_eq, eCh_eq, Res.bind_ok, truthD, kk, k22, pMul_l c0 c1]
  rw [eA_eq, eK_eq, h]
  simp only [Res.bind_ok, eN_eq, pTup, lsq]
theorem steps_ok {A B : Ev} {x y : List Int} {e : En} {s : S} (hA : A e s = .ok (.tup (x.map D.int)) s) (hB : B e s = .ok (.tup (y.map D.int)) s) (h : Maj x y) (h1 : 1 ≤ x.length) (h6 : x.length ≤ 6) : ∃ t, (bB (e2 pNe (e2 pIx (eF 2 M_mean_paper (eK A (eK B (eN)))) (eC (.int 0))) (eC (.str "steps")))) e s = .ok false (s ++ t) := by
  obtain ⟨st, q, _⟩ := mean_ok h h1 h6 s
  refine ⟨[st], ?_⟩
  simp only [eAnd_eq, eOr_eq, eNot_eq, e1_eq, e2_eq, eA_eq, eK_eq, eN_eq, eC_eq, eV_eq, eF_eq, bB_eq, bT_eq, bAnd_eq, bOr_eq, bNot_eq, eT_eq, eL_eq, eIf_eq, eIt_eq, eItA_eq, eM_eq, eSl_eq, oNo_eq, oI_eq, eCh_eq, Res.bind_ok, truthD, hA, hB, List.length_cons, List.length_nil, if_true, q, pIx_zero, pNe_ss]
theorem pEq_ss (s : S) : pEq (.str "steps") (.str "steps") s = .ok (.bl true) s := by
  unfold pEq
  rw [eqP_str _ _ s (by decide +kernel) (by decide +kernel)]
  rfl
theorem pEq_ts (s : S) : pEq (.str "top") (.str "steps") s = .ok (.bl false) s := by
  unfold pEq
  rw [eqP_str _ _ s (by decide +kernel) (by decide +kernel)]
  rfl
theorem pNe_oo (s : S) : pNe (.str "orders") (.str "orders") s = .ok (.bl false) s := by
  unfold pNe
  rw [eqP_str _ _ s (by decide +kernel) (by decide +kernel)]
  rfl
theorem pNe_bl (a : Bool) (s : S) : pNe (.bl a) (.bl a) s = .ok (.bl false) s := by
  have : eqP (.bl a) (.bl a) s = some true := by simp [eqP, toP, SeqAt.shaped, PyData.canLay0, PyData.depth, PyData.eqv]
  simp only [pNe, this]
  rfl
/-- the one way about: steps are told just where the rows are the same in order -/
theorem both_ok {A B : Ev} {x y : List Int} {e : En} {s : S} (hA : ∀ s', (∃ t, s' = s ++ t) → A e s' = .ok (.tup (x.map D.int)) s') (hB : B e s = .ok (.tup (y.map D.int)) s) {B2 : Ev} (hB2 : ∀ s', (∃ t, s' = s ++ t) → B2 e s' = .ok (.lst (y.map D.int)) s') (h : Maj y x) (h1 : 1 ≤ x.length) (h6 : x.length ≤ 6) :
    ∃ t, (bB (e2 pNe (e2 pEq (e2 pIx (eF 2 M_mean_paper (eK A (eK B (eN)))) (eC (.int 0))) (eC (.str "steps"))) (e2 pEq (eA (pSo false) (eK A (eN))) (eA (pSo false) (eK B2 (eN)))))) e s = .ok false (s ++ t) := by
  have hA0 := hA s ⟨[], by simp⟩
  by_cases g : ∀ k, k < x.length → top k x ≤ top k y
  · have hd := maj_both h (fun k hk => g k (by rw [← h.len]; exact hk))
    have hm : Maj x y := ⟨h.len.symm, h.sum.symm, fun k hk => by unfold top; rw [hd]; exact Int.le_refl _⟩
    obtain ⟨st, q, _⟩ := mean_ok hm h1 h6 s
    have he : srtI x = srtI y := by
      unfold dsc at hd
      exact (List.reverse_inj.mp hd).symm
    refine ⟨[st], ?_⟩
    have a1 := hA (s ++ [st]) ⟨_, rfl⟩
    have b1 := hB2 (s ++ [st]) ⟨_, rfl⟩
    simp only [eAnd_eq, eOr_eq, eNot_eq, e1_eq, e2_eq, eA_eq, eK_eq, eN_eq, eC_eq, eV_eq, eF_eq, bB_eq, bT_eq, bAnd_eq, bOr_eq, bNot_eq, eT_eq, eL_eq, eIf_eq, eIt_eq, eItA_eq, eM_eq, eSl_eq, oNo_eq, oI_eq, eCh_eq, Res.bind_ok, truthD, hA0, hB, a1, b1, List.length_cons, List.length_nil, if_true, q, pIx_zero, pEq_ss, pSo, srtB, sqOf, lsq, intsD_map, Bool.false_eq_true, if_false, mkL_false, pEq_lst, he, decide_true, pNe_bl]
  · obtain ⟨k, hk⟩ := Classical.not_forall.mp g
    obtain ⟨hk1, hk2⟩ := Classical.not_imp.mp hk
    obtain ⟨j, q⟩ := mean_top h.len h.sum.symm h1 h6 hk1 (by omega) s
    have he : ¬ srtI x = srtI y := fun he => by
      have : top k x = top k y := by unfold top dsc; rw [he]
      omega
    refine ⟨[], ?_⟩
    rw [List.append_nil]
    have b1 := hB2 s ⟨[], by simp⟩
    simp only [eAnd_eq, eOr_eq, eNot_eq, e1_eq, e2_eq, eA_eq, eK_eq, eN_eq, eC_eq, eV_eq, eF_eq, bB_eq, bT_eq, bAnd_eq, bOr_eq, bNot_eq, eT_eq, eL_eq, eIf_eq, eIt_eq, eItA_eq, eM_eq, eSl_eq, oNo_eq, oI_eq, eCh_eq, Res.bind_ok, truthD, hA0, hB, b1, List.length_cons, List.length_nil, if_true, q, pIx_zero, pEq_ts, pSo, srtB, sqOf, lsq, intsD_map, Bool.false_eq_true, if_false, mkL_false, pEq_lst, decide_eq_false he, pNe_bl]
/-! ### the row -/
theorem row_take {e : En} {h1 : e[1]? = some (some (.ref 0))} : ∀ (ds : List D) (s : S) (x : Src), s[0]? = some x.enc → 0 ≤ x.acc → ∃ (xs : List Int) (x' : Src), compL (.nm 4) bYes (e2 pSub (eF 2 M_law_take (eK (eV 1) (eK (eC (.int 11)) (eN)))) (eC (.int 5))) ds e s = .ok (xs.map D.int) (s.set 0 x'.enc) ∧ xs.length = ds.length ∧ (∀ y ∈ xs, -1000 ≤ y ∧ y ≤ 1000) ∧ 0 ≤ x'.acc
  | [], s, x, h0, ha => by
    refine ⟨[], x, ?_, rfl, fun y hy => by simp at hy, ha⟩
    have e1 : s.set 0 x.enc = s := by
      refine List.ext_getElem? fun i => ?_
      by_cases e : i = 0
      · subst e; rw [set0 h0, h0]
      · rw [List.getElem?_set_ne (by omega)]
    rw [e1]
    rfl
  | d :: ds, s, x, h0, ha => by
    obtain ⟨v, x1, q, v0, v1, a1⟩ := take_ok (many := 11) h0 ha (by decide) (by decide)
    obtain ⟨xs, x2, q2, hl, hb, a2⟩ := row_take (e := e) (h1 := h1) ds (s.set 0 x1.enc) x1 (set0 h0 _) a1
    rw [List.set_set] at q2
    refine ⟨(v - 5) :: xs, x2, ?_, by simp [hl], fun y hy => ?_, a2⟩
    · have ea : asg (.nm 4) d e = some (e.set 4 (some d)) := rfl
      have k1 : (e.set 4 (some d))[1]? = some (some (.ref 0)) := by rw [List.getElem?_set_ne (by omega)]; exact h1
      simp only [compL, ea, bYes, noX_ok, eAnd_eq, eOr_eq, eNot_eq, e1_eq, e2_eq, eA_eq, eK_eq, eN_eq, eC_eq, eV_eq, eF_eq, bB_eq, bT_eq, bAnd_eq, bOr_eq, bNot_eq, eT_eq, eL_eq, eIf_eq, eIt_eq, eItA_eq, eM_eq, eSl_eq, oNo_eq, oI_eq, eCh_eq, Res.bind_ok, truthD, if_true, k1, List.length_cons, List.length_nil, q, pSub, q2, List.map_cons]
    · rcases List.mem_cons.mp hy with rfl | hy
      · omega
      · exact hb y hy
/-! ### papers read back -/
theorem compL_src {α : Type} {t : Tgt} {f : Ev} {enc g : α → D} {e : En} {s : S} : ∀ {src : List α}, (∀ p ∈ src, ∃ e1, asg t (enc p) e = some e1 ∧ f e1 s = .ok (g p) s) → compL t bYes f (src.map enc) e s = .ok (src.map g) s
  | [], _ => rfl
  | p :: ps, h => by
    obtain ⟨e1, h1, h2⟩ := h p List.mem_cons_self
    have ih := compL_src (src := ps) fun x hx => h x (List.mem_cons_of_mem _ hx)
    simp only [List.map_cons, compL, h1, bYes, h2, noX_ok, Res.bind_ok, if_true, ih]
theorem eLc_src {α : Type} {fi : Ei} {vs : List Nat} {t : Tgt} {f : Ev} {enc g : α → D} {e : En} {s : S} {src : List α} (h : fi e s = .ok (.seq (src.map enc)) s) (hz : src.length ≤ 1000) (hf : ∀ p ∈ src, ∃ e1, asg t (enc p) (wipeE e vs) = some e1 ∧ f e1 s = .ok (g p) s) : eLc false fi vs t bYes f e s = .ok (.lst (src.map g)) s := by
  rw [eLc_seq h (by rw [List.length_map]; exact Nat.le_trans hz (by decide)), compL_src hf]
  rfl
theorem back_eq {n i : Nat} (hi : i < n) (x : Nat → Int) : ∀ fs : List (List Nat × Int), (∀ p ∈ fs, Ord n p.1) → sg (fun j => (fs.map fun p => if p.1.getD i 0 = j then p.2 else 0).sum * x j) n = (fs.map fun p => p.2 * x (p.1.getD i 0)).sum
  | [], _ => by simp [sg_zero]
  | p :: fs, h => by
    have ih := back_eq hi x fs fun q hq => h q (List.mem_cons_of_mem _ hq)
    have hk := (h p List.mem_cons_self).lt' hi
    rw [List.map_cons, List.sum_cons, ← ih]
    have e1 : sg (fun j => (((p :: fs).map fun p => if p.1.getD i 0 = j then p.2 else 0).sum) * x j) n = sg (fun j => (if j = p.1.getD i 0 then p.2 * x (p.1.getD i 0) else 0) + (fs.map fun p => if p.1.getD i 0 = j then p.2 else 0).sum * x j) n := sg_congr _ fun j _ => by
      rw [List.map_cons, List.sum_cons, Int.add_mul]
      congr 1
      by_cases c : p.1.getD i 0 = j
      · rw [if_pos c, if_pos c.symm, c]
      · rw [if_neg c, if_neg fun d => c d.symm, Int.zero_mul]
    rw [e1, sg_add, sg_one, if_pos hk]
theorem table_of {n b0 b1 : Nat} {a0 a1 : Nat → Nat → Int} {e : En} {s : S} (h : Tb n b0 b1 a0 a1 s) (h5 : n ≤ 5) (h3 : e[3]? = some (some (.ref 1))) (hlen : e.length = 25) : (eA pTup (eK (eLc false (eIt itSq (e2 pIx (eV 3) (eC (.int 0)))) [23] (.nm 23) bYes (eA pTup (eK (eV 23) (eN)))) (eN))) e s = .ok (.tup (tabT n a0)) s := by
  have q := eLc_src (α := Nat) (fi := eIt itSq (e2 pIx (eV 3) (eC (.int 0)))) (vs := [23]) (t := .nm 23) (f := eA pTup (eK (eV 23) (eN))) (enc := fun i => .ref (b0 + i)) (g := fun i => .tup ((rowI n (a0 i)).map D.int)) (e := e) (s := s) (src := List.range n) (by
    simp only [eAnd_eq, eOr_eq, eNot_eq, e1_eq, e2_eq, eA_eq, eK_eq, eN_eq, eC_eq, eV_eq, eF_eq, bB_eq, bT_eq, bAnd_eq, bOr_eq, bNot_eq, eT_eq, eL_eq, eIf_eq, eIt_eq, eItA_eq, eM_eq, eSl_eq, oNo_eq, oI_eq, eCh_eq, Res.bind_ok, truthD, h3, h.p0, itSq, itOf]
    rfl) (by simp; omega) fun i hi => by
    have hi' := List.mem_range.mp hi
    have k23 : ((wipeE e [23]).set 23 (some (.ref (b0 + i))))[23]? = some (some (.ref (b0 + i))) := by simp [wipeE, hlen]
    refine ⟨_, rfl, ?_⟩
    simp only [eAnd_eq, eOr_eq, eNot_eq, e1_eq, e2_eq, eA_eq, eK_eq, eN_eq, eC_eq, eV_eq, eF_eq, bB_eq, bT_eq, bAnd_eq, bOr_eq, bNot_eq, eT_eq, eL_eq, eIf_eq, eIt_eq, eItA_eq, eM_eq, eSl_eq, oNo_eq, oI_eq, eCh_eq, Res.bind_ok, truthD, k23, pTup, lsq, h.r0 i hi']
  rw [eA_eq, eK_eq, q]
  simp only [Res.bind_ok, eN_eq, pTup, lsq]
  rfl
theorem pairs_sum {fs : List (List Nat × Int)} {e : En} {s : S} (h19 : e[19]? = some (some (.tup [.str "orders", .tup (fs.map encF)]))) (hlen : e.length = 25) (hf : fs.length ≤ 60) : (eA pSum (eK (eLc false (eIt itSq (e2 pIx (eV 19) (eC (.int 1)))) [24] (.nm 24) bYes (e2 pIx (eV 24) (eC (.int 1)))) (eN))) e s = .ok (.int (fs.map (·.2)).sum) s := by
  have q := eLc_src (fi := eIt itSq (e2 pIx (eV 19) (eC (.int 1)))) (vs := [24]) (t := .nm 24) (f := e2 pIx (eV 24) (eC (.int 1))) (enc := encF) (g := fun p => .int p.2) (e := e) (s := s) (src := fs) (by
    simp only [eAnd_eq, eOr_eq, eNot_eq, e1_eq, e2_eq, eA_eq, eK_eq, eN_eq, eC_eq, eV_eq, eF_eq, bB_eq, bT_eq, bAnd_eq, bOr_eq, bNot_eq, eT_eq, eL_eq, eIf_eq, eIt_eq, eItA_eq, eM_eq, eSl_eq, oNo_eq, oI_eq, eCh_eq, Res.bind_ok, truthD, h19, pIx_one, itSq]) (by omega) fun p _ => by
    have k24 : ((wipeE e [24]).set 24 (some (encF p)))[24]? = some (some (encF p)) := by simp [wipeE, hlen]
    refine ⟨_, rfl, ?_⟩
    simp only [eAnd_eq, eOr_eq, eNot_eq, e1_eq, e2_eq, eA_eq, eK_eq, eN_eq, eC_eq, eV_eq, eF_eq, bB_eq, bT_eq, bAnd_eq, bOr_eq, bNot_eq, eT_eq, eL_eq, eIf_eq, eIt_eq, eItA_eq, eM_eq, eSl_eq, oNo_eq, oI_eq, eCh_eq, Res.bind_ok, truthD, k24]
    simp only [encF, pIx_one]
  rw [eA_eq, eK_eq, q, show (fs.map fun p => D.int p.2) = (fs.map (·.2)).map D.int by rw [List.map_map]; rfl]
  simp only [Res.bind_ok, eN_eq, pSum_lst]
theorem back_ok {n : Nat} {a : Nat → Nat → Int} {x : List Int} {fs : List (List Nat × Int)} {e : En} {s : S} (h2 : e[2]? = some (some (.int n))) (h9 : e[9]? = some (some (.lst (x.map D.int)))) (h19 : e[19]? = some (some (.tup [.str "orders", .tup (fs.map encF)]))) (hlen : e.length = 25) (h5 : n ≤ 5) (hf : fs.length ≤ 60) (hx : x.length = n) (hb : ∀ y ∈ x, -1000 ≤ y ∧ y ≤ 1000)
    (ho : ∀ p ∈ fs, Ord n p.1) (ha : ∀ i j, i < n → j < n → a i j = (fs.map fun p => if p.1.getD i 0 = j then p.2 else 0).sum) :
    (eLc false (eItA pRng1 (eK (eV 2) (eN))) [8] (.nm 8) bYes (eA pSum (eK (eLc false (eIt itSq (e2 pIx (eV 19) (eC (.int 1)))) [24] (.nm 24) bYes (e2 (pMul false) (e2 pIx (eV 24) (eC (.int 1))) (e2 pIx (eV 9) (e2 pIx (e2 pIx (eV 24) (eC (.int 0))) (eV 8))))) (eN)))) e s = .ok (.lst ((app n a x).map D.int)) s := by
  refine rng_ints (g := fun i => sg (fun j => a i j * x.getD j 0) n) (by simp only [eAnd_eq, eOr_eq, eNot_eq, e1_eq, e2_eq, eA_eq, eK_eq, eN_eq, eC_eq, eV_eq, eF_eq, bB_eq, bT_eq, bAnd_eq, bOr_eq, bNot_eq, eT_eq, eL_eq, eIf_eq, eIt_eq, eItA_eq, eM_eq, eSl_eq, oNo_eq, oI_eq, eCh_eq, Res.bind_ok, truthD, h2]; exact pRng1_nat (by omega) _) (by omega) fun i hi => ?_
  have e1 : sg (fun j => a i j * x.getD j 0) n = (fs.map fun p => p.2 * x.getD (p.1.getD i 0) 0).sum := by
    rw [← back_eq hi (fun j => x.getD j 0) fs ho]
    exact sg_congr _ fun j hj => by rw [ha i j hi hj]
  have k19 : ((wipeE e [8]).set 8 (some (.int (i : Nat))))[19]? = some (some (.tup [.str "orders", .tup (fs.map encF)])) := by simp [wipeE, h19]
  have q := eLc_src (fi := eIt itSq (e2 pIx (eV 19) (eC (.int 1)))) (vs := [24]) (t := .nm 24) (f := (e2 (pMul false) (e2 pIx (eV 24) (eC (.int 1))) (e2 pIx (eV 9) (e2 pIx (e2 pIx (eV 24) (eC (.int 0))) (eV 8))))) (enc := encF) (g := fun p => .int (p.2 * x.getD (p.1.getD i 0) 0)) (e := (wipeE e [8]).set 8 (some (.int (i : Nat)))) (s := s) (src := fs) (by
    simp only [eAnd_eq, eOr_eq, eNot_eq, e1_eq, e2_eq, eA_eq, eK_eq, eN_eq, eC_eq, eV_eq, eF_eq, bB_eq, bT_eq, bAnd_eq, bOr_eq, bNot_eq, eT_eq, eL_eq, eIf_eq, eIt_eq, eItA_eq, eM_eq, eSl_eq, oNo_eq, oI_eq, eCh_eq, Res.bind_ok, truthD, k19, pIx_one, itSq]) (by omega) fun p hp => by
    have k24 : ((wipeE ((wipeE e [8]).set 8 (some (.int (i : Nat)))) [24]).set 24 (some (encF p)))[24]? = some (some (encF p)) := by simp [wipeE, hlen]
    have k9 : ((wipeE ((wipeE e [8]).set 8 (some (.int (i : Nat)))) [24]).set 24 (some (encF p)))[9]? = some (some (.lst (x.map D.int))) := by simp [wipeE, h9]
    have k8 : ((wipeE ((wipeE e [8]).set 8 (some (.int (i : Nat)))) [24]).set 24 (some (encF p)))[8]? = some (some (.int i)) := by simp [wipeE, hlen]
    have hj := (ho p hp).lt' hi
    have hop : (p.1.map fun j : Nat => D.int j)[i]? = some (.int (p.1.getD i 0 : Nat)) := by
      have : i < p.1.length := by rw [(ho p hp).len]; exact hi
      simp [List.getD, this]
    have hjx : p.1.getD i 0 < x.length := by rw [hx]; exact hj
    have hy := hb (x.getD (p.1.getD i 0) 0) (by
      rw [List.getD_eq_getElem?_getD, List.getElem?_eq_getElem hjx]
      exact List.getElem_mem hjx)
    refine ⟨_, rfl, ?_⟩
    simp only [eAnd_eq, eOr_eq, eNot_eq, e1_eq, e2_eq, eA_eq, eK_eq, eN_eq, eC_eq, eV_eq, eF_eq, bB_eq, bT_eq, bAnd_eq, bOr_eq, bNot_eq, eT_eq, eL_eq, eIf_eq, eIt_eq, eItA_eq, eM_eq, eSl_eq, oNo_eq, oI_eq, eCh_eq, Res.bind_ok, truthD, k24, k9, k8]
    simp only [encF, encO, pIx_one, pIx_zero, Res.bind_ok, pIx_atT hop, pIx_nat x hjx, pMul_r hy.1 hy.2]
  rw [eA_eq, eK_eq, q, show (fs.map fun p => D.int (p.2 * x.getD (p.1.getD i 0) 0)) = (fs.map fun p => p.2 * x.getD (p.1.getD i 0) 0).map D.int by rw [List.map_map]; rfl]
  simp only [Res.bind_ok, eN_eq, pSum_lst, e1]
/-! ### the law -/
theorem exists_imp_of {α : Type} {p q : α → Prop} (h : ∀ a, p a → q a) (e : ∃ a, p a) : ∃ a, q a := e.elim fun a ha => ⟨a, h a ha⟩
theorem maj_len {n : Nat} {a : Nat → Nat → Int} {x : List Int} : (app n a x).length = n := by simp [app]
theorem law_true (ns : List Int) (hns : ns.length ≤ 63) : ∃ s', M_law [.fz (ns.map D.int)] [] = .ok (.bl true) s' := by
  obtain ⟨x0, q1, hx0⟩ := begin_ok ns
  obtain ⟨v, x1, q2, v0, v1, ha1⟩ := take_ok (x := x0) (s := [x0.enc]) (many := 5) rfl (by omega) (by decide) (by decide)
  obtain ⟨n, hn⟩ : ∃ n : Nat, (n : Int) = 1 + v := ⟨(1 + v).toNat, by omega⟩
  have h1 : 1 ≤ n := by omega
  have h5 : n ≤ 5 := by omega
  obtain ⟨x2, s2, a0, m0, d5, d6, d7, d8, q3, hs20, ha2, hs21, hF2, hr2, hl2, hE0, hm0⟩ := table_ok (c0 := some (.fz (ns.map D.int))) (c4 := some (.int 0)) (c5 := none) (c6 := none) (c7 := none) (c8 := none) (n := n) (s := [x1.enc, []]) (x := x1) (ts := []) (r := no16) h1 h5 rfl ha1 rfl (by simp)
  obtain ⟨x3, s3, a1, m1, f5, f6, f7, f8, q4, hs30, ha3, hs31, hF3, hr3, hl3, hE1, hm1⟩ := table_ok (c0 := some (.fz (ns.map D.int))) (c4 := some (.int 1)) (c5 := d5) (c6 := d6) (c7 := d7) (c8 := d8) (n := n) (s := s2) (x := x2) (r := no16) h1 h5 hs20 ha2 hs21 (by simp)
  obtain ⟨row, x4, q5, hrl, hrb, ha4⟩ := row_take (e := envL (some (.fz (ns.map D.int))) n none f5 f6 f7 f8 no16) (h1 := rfl) ((List.range n).map fun k : Nat => D.int k) s3 x3 hs30 ha3
  rw [List.length_map, List.length_range] at hrl
  have hl2' : 2 + n ≤ s2.length := hl2
  have hT : Tb n 2 s2.length a0 a1 (s3.set 0 x4.enc) := ⟨by rw [List.getElem?_set_ne (by omega)]; exact hs31, fun i hi => by
    rw [List.getElem?_set_ne (by omega), hF3.2 _ (by omega) (by omega)]
    exact hr2 i hi, fun i hi => by
    rw [List.getElem?_set_ne (by omega)]
    exact hr3 i hi⟩
  have hloop : forL (.nm 4) tableB [.int 0, .int 1] (envL (some (.fz (ns.map D.int))) n none none none none none no16) [x1.enc, []] = .ok (.nx (envL (some (.fz (ns.map D.int))) n (some (.int 1)) f5 f6 f7 f8 no16)) s3 := by
    rw [forL_nx (e1 := envL (some (.fz (ns.map D.int))) n (some (.int 0)) none none none none no16) rfl q3]
    rw [forL_nx (e1 := envL (some (.fz (ns.map D.int))) n (some (.int 1)) d5 d6 d7 d8 no16) rfl q4]
    rfl
  generalize s3.set 0 x4.enc = s4 at q5 hT
  have hone := app_maj (n := n) (m := m0) (a := a0) (x := row) (by omega) hE0 hrl
  have hol : (app n a0 row).length = n := maj_len
  have hwl : (row.map ((m0 : Int) * ·)).length = n := by simp [hrl]
  have htwo := app_maj (n := n) (m := m1) (a := a1) (x := app n a0 row) (by omega) hE1 hol
  have htl : (app n a1 (app n a0 row)).length = n := maj_len
  have htwo2 : Maj (app n a1 (app n a0 row)) ((row.map ((m0 : Int) * ·)).map ((m1 : Int) * ·)) := htwo.trans (hone.mul (by omega))
  have hflat := flat_maj row
  rw [hrl] at hflat
  unfold M_law
  suffices hgoal : ∃ s', B_law [some (.fz (ns.map D.int)), none, none, none, none, none, none, none, none, none, none, none, none, none, none, none, none, none, none, none, none, none, none, none, none] [] = .ok (.rt (.bl true)) s' by
    obtain ⟨s', h⟩ := hgoal
    exact ⟨s', runD_rt h⟩
  unfold B_law
  rw [sSeq_nx (sSet_ok (d := .ref 0) (s' := [x0.enc]) (by simp only [eAnd_eq, eOr_eq, eNot_eq, e1_eq, e2_eq, eA_eq, eK_eq, eN_eq, eC_eq, eV_eq, eF_eq, bB_eq, bT_eq, bAnd_eq, bOr_eq, bNot_eq, eT_eq, eL_eq, eIf_eq, eIt_eq, eItA_eq, eM_eq, eSl_eq, oNo_eq, oI_eq, eCh_eq, Res.bind_ok, truthD, List.getElem?_cons_succ, List.getElem?_cons_zero, List.length_cons, List.length_nil]; exact q1))]
  rw [sSeq_nx (sSet_ok (d := .int n) (s' := [x1.enc]) (by
    simp only [eAnd_eq, eOr_eq, eNot_eq, e1_eq, e2_eq, eA_eq, eK_eq, eN_eq, eC_eq, eV_eq, eF_eq, bB_eq, bT_eq, bAnd_eq, bOr_eq, bNot_eq, eT_eq, eL_eq, eIf_eq, eIt_eq, eItA_eq, eM_eq, eSl_eq, oNo_eq, oI_eq, eCh_eq, Res.bind_ok, truthD, List.set_cons_succ, List.set_cons_zero, List.getElem?_cons_succ, List.getElem?_cons_zero, List.length_cons, List.length_nil, if_true, q2, pAdd, hn]))]
  rw [sSeq_nx (sSet_ok (d := .ref 1) (s' := [x1.enc, []]) rfl)]
  refine exists_imp_of (fun s' h => (sSeq_nx ((sFor_seq (xs := [.int 0, .int 1]) (s' := [x1.enc, []]) (pRng1_nat (n := 2) (by omega) _)).trans hloop)).trans h) ?_
  have hrow : (eLc false (eItA pRng1 (eK (eV 2) (eN))) [4] (.nm 4) bYes (e2 pSub (eF 2 M_law_take (eK (eV 1) (eK (eC (.int 11)) (eN)))) (eC (.int 5)))) (envL (some (.fz (ns.map D.int))) n (some (.int 1)) f5 f6 f7 f8 no16) s3 = .ok (.lst (row.map D.int)) s4 := by
    rw [eLc_seq (xs := (List.range n).map fun k : Nat => D.int k) (s' := s3) (by
      simp only [eAnd_eq, eOr_eq, eNot_eq, e1_eq, e2_eq, eA_eq, eK_eq, eN_eq, eC_eq, eV_eq, eF_eq, bB_eq, bT_eq, bAnd_eq, bOr_eq, bNot_eq, eT_eq, eL_eq, eIf_eq, eIt_eq, eItA_eq, eM_eq, eSl_eq, oNo_eq, oI_eq, eCh_eq, Res.bind_ok, truthD, envL, List.getElem?_cons_succ, List.getElem?_cons_zero]
      exact pRng1_nat (by omega) _) (by simp; exact Nat.le_trans h5 (by decide))]
    rw [show wipeE (envL (some (.fz (ns.map D.int))) n (some (.int 1)) f5 f6 f7 f8 no16) [4] = envL (some (.fz (ns.map D.int))) n none f5 f6 f7 f8 no16 from rfl, q5]
    rfl
  refine exists_imp_of (fun s' h => (sSeq_nx (sSet_ok hrow)).trans h) ?_
  generalize some (D.fz (ns.map D.int)) = c0
  have hz0 : ∀ (b : Nat) (s : S), pIx (.lst (refs b n)) (.int 0) s = .ok (.ref (b + 0)) s := fun b s => pIx_refs (i := 0) (by omega) s
  have hr00 : ∀ s, Tb n 2 s2.length a0 a1 s → s[2 + 0]? = some ((rowI n (a0 0)).map D.int) := fun s h => h.r0 0 (by omega)
  have hr10 : ∀ s, Tb n 2 s2.length a0 a1 s → s[s2.length + 0]? = some ((rowI n (a1 0)).map D.int) := fun s h => h.r1 0 (by omega)
  have h10 : (eA pSum (eK (e2 pIx (e2 pIx (eV 3) (eC (.int 0))) (eC (.int 0))) (eN))) (envL c0 n (some (.int 1)) f5 f6 f7 f8 [some (.lst (row.map D.int)), none, none, none, none, none, none, none, none, none, none, none, none, none, none, none]) s4 = .ok (.int m0) s4 := by
    simp only [eAnd_eq, eOr_eq, eNot_eq, e1_eq, e2_eq, eA_eq, eK_eq, eN_eq, eC_eq, eV_eq, eF_eq, bB_eq, bT_eq, bAnd_eq, bOr_eq, bNot_eq, eT_eq, eL_eq, eIf_eq, eIt_eq, eItA_eq, eM_eq, eSl_eq, oNo_eq, oI_eq, eCh_eq, Res.bind_ok, truthD, envL, List.getElem?_cons_succ, List.getElem?_cons_zero, hT.p0, hz0, pSum, sqOf, lsq, hr00 s4 hT, intsD_map, rowI_sum, hE0.row 0 (by omega)]
  refine exists_imp_of (fun s' h => (sSeq_nx (sSet_ok h10)).trans h) ?_
  have h11 := app_ok (e := (envL c0 n (some (.int 1)) f5 f6 f7 f8 [some (.lst (row.map D.int)), some (.int m0), none, none, none, none, none, none, none, none, none, none, none, none, none, none])) (s := s4) 0 9 rfl rfl rfl (by decide) (by decide) rfl h5 hT.p0 hT.r0 hE0 hm0 hrl
  refine exists_imp_of (fun s' h => (sSeq_nx (sSet_ok h11)).trans h) ?_
  have h12 := scale_ok (xs := row) (c := (m0 : Int)) (v := 9) (k := 10) (e := (envL c0 n (some (.int 1)) f5 f6 f7 f8 [some (.lst (row.map D.int)), some (.int m0), some (.lst ((app n a0 row).map D.int)), none, none, none, none, none, none, none, none, none, none, none, none, none])) (s := s4) rfl rfl (by decide) rfl (by omega) (by omega) (by omega)
  refine exists_imp_of (fun s' h => (sSeq_nx (sSet_ok h12)).trans h) ?_
  obtain ⟨st1, q13, hR⟩ := mean_ok hone (by omega) (by omega) s4
  have h13 : (eF 2 M_mean_paper (eK (eA pTup (eK (eV 11) (eN))) (eK (eV 12) (eN)))) (envL c0 n (some (.int 1)) f5 f6 f7 f8 [some (.lst (row.map D.int)), some (.int m0), some (.lst ((app n a0 row).map D.int)), some (.tup ((row.map ((m0 : Int) * ·)).map D.int)), none, none, none, none, none, none, none, none, none, none, none, none]) s4 = .ok (.tup [.str "steps", .tup st1]) (s4 ++ [st1]) := by
    simp only [eAnd_eq, eOr_eq, eNot_eq, e1_eq, e2_eq, eA_eq, eK_eq, eN_eq, eC_eq, eV_eq, eF_eq, bB_eq, bT_eq, bAnd_eq, bOr_eq, bNot_eq, eT_eq, eL_eq, eIf_eq, eIt_eq, eItA_eq, eM_eq, eSl_eq, oNo_eq, oI_eq, eCh_eq, Res.bind_ok, truthD, envL, List.getElem?_cons_succ, List.getElem?_cons_zero, pTup, lsq, List.length_cons, List.length_nil, if_true, q13]
  refine exists_imp_of (fun s' h => (sSeq_nx (sSet_ok h13)).trans h) ?_
  have hT5 := hT.ext [st1]
  generalize s4 ++ [st1] = s5 at hT5
  have htk := takes_ok (hwl.trans hol.symm) (by omega) (by omega) hR s5
  have c13 : (bOr (bB (e2 pNe (e2 pIx (eV 13) (eC (.int 0))) (eC (.str "steps")))) (bB (e2 pNsB (eF 3 M_takes_mean (eK (eA pTup (eK (eV 11) (eN))) (eK (eV 12) (eK (eV 13) (eN))))) (eC (.bl true))))) (envL c0 n (some (.int 1)) f5 f6 f7 f8 [some (.lst (row.map D.int)), some (.int m0), some (.lst ((app n a0 row).map D.int)), some (.tup ((row.map ((m0 : Int) * ·)).map D.int)), some (.tup [.str "steps", .tup st1]), none, none, none, none, none, none, none, none, none, none, none]) s5 = .ok false s5 := by
    simp only [eAnd_eq, eOr_eq, eNot_eq, e1_eq, e2_eq, eA_eq, eK_eq, eN_eq, eC_eq, eV_eq, eF_eq, bB_eq, bT_eq, bAnd_eq, bOr_eq, bNot_eq, eT_eq, eL_eq, eIf_eq, eIt_eq, eItA_eq, eM_eq, eSl_eq, oNo_eq, oI_eq, eCh_eq, Res.bind_ok, truthD, envL, List.getElem?_cons_succ, List.getElem?_cons_zero, pTup, lsq, List.length_cons, List.length_nil, if_true, pIx_zero, pNe_ss, Bool.false_eq_true, if_false, htk, pNsB]
    rfl
  refine exists_imp_of (fun s' h => (sSeq_nx ((sIf_no c13).trans (sNil_eq _ _))).trans h) ?_
  have h14 : (eA pSum (eK (e2 pIx (e2 pIx (eV 3) (eC (.int 1))) (eC (.int 0))) (eN))) (envL c0 n (some (.int 1)) f5 f6 f7 f8 [some (.lst (row.map D.int)), some (.int m0), some (.lst ((app n a0 row).map D.int)), some (.tup ((row.map ((m0 : Int) * ·)).map D.int)), some (.tup [.str "steps", .tup st1]), none, none, none, none, none, none, none, none, none, none, none]) s5 = .ok (.int m1) s5 := by
    simp only [eAnd_eq, eOr_eq, eNot_eq, e1_eq, e2_eq, eA_eq, eK_eq, eN_eq, eC_eq, eV_eq, eF_eq, bB_eq, bT_eq, bAnd_eq, bOr_eq, bNot_eq, eT_eq, eL_eq, eIf_eq, eIt_eq, eItA_eq, eM_eq, eSl_eq, oNo_eq, oI_eq, eCh_eq, Res.bind_ok, truthD, envL, List.getElem?_cons_succ, List.getElem?_cons_zero, hT5.p1, hz0, pSum, sqOf, lsq, hr10 s5 hT5, intsD_map, rowI_sum, hE1.row 0 (by omega)]
  refine exists_imp_of (fun s' h => (sSeq_nx (sSet_ok h14)).trans h) ?_
  have h15 : (eA pTup (eK (eLc false (eItA pRng1 (eK (eV 2) (eN))) [8] (.nm 8) bYes (eA pSum (eK (eLc false (eItA pRng1 (eK (eV 2) (eN))) [21] (.nm 21) bYes (e2 (pMul false) (e2 pIx (e2 pIx (e2 pIx (eV 3) (eC (.int 1))) (eV 8)) (eV 21)) (e2 pIx (eV 11) (eV 21)))) (eN)))) (eN))) (envL c0 n (some (.int 1)) f5 f6 f7 f8 [some (.lst (row.map D.int)), some (.int m0), some (.lst ((app n a0 row).map D.int)), some (.tup ((row.map ((m0 : Int) * ·)).map D.int)), some (.tup [.str "steps", .tup st1]), some (.int m1), none, none, none, none, none, none, none, none, none, none]) s5 = .ok (.tup ((app n a1 (app n a0 row)).map D.int)) s5 := by
    rw [eA_eq, eK_eq, app_ok (x := app n a0 row) (e := (envL c0 n (some (.int 1)) f5 f6 f7 f8 [some (.lst (row.map D.int)), some (.int m0), some (.lst ((app n a0 row).map D.int)), some (.tup ((row.map ((m0 : Int) * ·)).map D.int)), some (.tup [.str "steps", .tup st1]), some (.int m1), none, none, none, none, none, none, none, none, none, none])) (s := s5) 1 11 rfl rfl rfl (by decide) (by decide) rfl h5 hT5.p1 hT5.r1 hE1 hm1 hol]
    simp only [Res.bind_ok, eN_eq, pTup, lsq]
  refine exists_imp_of (fun s' h => (sSeq_nx (sSet_ok h15)).trans h) ?_
  have h16 := scale_ok (xs := row.map ((m0 : Int) * ·)) (c := (m1 : Int)) (v := 12) (k := 14) (e := (envL c0 n (some (.int 1)) f5 f6 f7 f8 [some (.lst (row.map D.int)), some (.int m0), some (.lst ((app n a0 row).map D.int)), some (.tup ((row.map ((m0 : Int) * ·)).map D.int)), some (.tup [.str "steps", .tup st1]), some (.int m1), some (.tup ((app n a1 (app n a0 row)).map D.int)), none, none, none, none, none, none, none, none, none])) (s := s5) rfl rfl (by decide) rfl (by omega) (by omega) (by omega)
  refine exists_imp_of (fun s' h => (sSeq_nx (sSet_ok h16)).trans h) ?_
  obtain ⟨t1, k1⟩ := steps_ok (A := eV 15) (B := eV 16) (e := (envL c0 n (some (.int 1)) f5 f6 f7 f8 [some (.lst (row.map D.int)), some (.int m0), some (.lst ((app n a0 row).map D.int)), some (.tup ((row.map ((m0 : Int) * ·)).map D.int)), some (.tup [.str "steps", .tup st1]), some (.int m1), some (.tup ((app n a1 (app n a0 row)).map D.int)), some (.tup (((row.map ((m0 : Int) * ·)).map ((m1 : Int) * ·)).map D.int)), none, none, none, none, none, none, none, none])) (s := s5) rfl rfl htwo2 (by omega) (by omega)
  have hT6 := hT5.ext t1
  generalize s5 ++ t1 = s6 at hT6 k1
  have hB6 := scale_ok (xs := app n a0 row) (c := (m1 : Int)) (v := 11) (k := 14) (e := (envL c0 n (some (.int 1)) f5 f6 f7 f8 [some (.lst (row.map D.int)), some (.int m0), some (.lst ((app n a0 row).map D.int)), some (.tup ((row.map ((m0 : Int) * ·)).map D.int)), some (.tup [.str "steps", .tup st1]), some (.int m1), some (.tup ((app n a1 (app n a0 row)).map D.int)), some (.tup (((row.map ((m0 : Int) * ·)).map ((m1 : Int) * ·)).map D.int)), none, none, none, none, none, none, none, none])) (s := s6) rfl rfl (by decide) rfl (by omega) (by omega) (by omega)
  obtain ⟨t2, k2⟩ := steps_ok (A := eV 15) (e := (envL c0 n (some (.int 1)) f5 f6 f7 f8 [some (.lst (row.map D.int)), some (.int m0), some (.lst ((app n a0 row).map D.int)), some (.tup ((row.map ((m0 : Int) * ·)).map D.int)), some (.tup [.str "steps", .tup st1]), some (.int m1), some (.tup ((app n a1 (app n a0 row)).map D.int)), some (.tup (((row.map ((m0 : Int) * ·)).map ((m1 : Int) * ·)).map D.int)), none, none, none, none, none, none, none, none])) (s := s6) rfl hB6 htwo (by omega) (by omega)
  have hT7 := hT6.ext t2
  generalize s6 ++ t2 = s7 at hT7 k2
  refine exists_imp_of (fun s' h => (sSeq_nx ((sIf_no (s' := s7) (by
    rw [bOr_eq]
    refine (congrArg (fun r => Res.bind r _) k1).trans ?_
    simp only [Res.bind_ok, Bool.false_eq_true, if_false]
    exact k2)).trans (sNil_eq _ _))).trans h) ?_
  obtain ⟨t3, k3⟩ := both_ok (A := eV 12) (B := eA pTup (eK (eV 11) (eN))) (B2 := eV 11) (x := row.map ((m0 : Int) * ·)) (y := app n a0 row) (e := (envL c0 n (some (.int 1)) f5 f6 f7 f8 [some (.lst (row.map D.int)), some (.int m0), some (.lst ((app n a0 row).map D.int)), some (.tup ((row.map ((m0 : Int) * ·)).map D.int)), some (.tup [.str "steps", .tup st1]), some (.int m1), some (.tup ((app n a1 (app n a0 row)).map D.int)), some (.tup (((row.map ((m0 : Int) * ·)).map ((m1 : Int) * ·)).map D.int)), none, none, none, none, none, none, none, none])) (s := s7) (fun _ _ => rfl) rfl (fun _ _ => rfl) hone (by omega) (by omega)
  have hT8 := hT7.ext t3
  generalize s7 ++ t3 = s8 at hT8 k3
  refine exists_imp_of (fun s' h => (sSeq_nx ((sIf_no k3).trans (sNil_eq _ _))).trans h) ?_
  have h17 : (e2 (pMul false) (eT (eK (eA pSum (eK (eV 9) (eN))) (eN))) (eV 2)) (envL c0 n (some (.int 1)) f5 f6 f7 f8 [some (.lst (row.map D.int)), some (.int m0), some (.lst ((app n a0 row).map D.int)), some (.tup ((row.map ((m0 : Int) * ·)).map D.int)), some (.tup [.str "steps", .tup st1]), some (.int m1), some (.tup ((app n a1 (app n a0 row)).map D.int)), some (.tup (((row.map ((m0 : Int) * ·)).map ((m1 : Int) * ·)).map D.int)), none, none, none, none, none, none, none, none]) s8 = .ok (.tup ((List.replicate n row.sum).map D.int)) s8 := by
    simp only [eAnd_eq, eOr_eq, eNot_eq, e1_eq, e2_eq, eA_eq, eK_eq, eN_eq, eC_eq, eV_eq, eF_eq, bB_eq, bT_eq, bAnd_eq, bOr_eq, bNot_eq, eT_eq, eL_eq, eIf_eq, eIt_eq, eItA_eq, eM_eq, eSl_eq, oNo_eq, oI_eq, eCh_eq, Res.bind_ok, truthD, envL, List.getElem?_cons_succ, List.getElem?_cons_zero, pSum_lst, pMul]
    by_cases c : (n : Int) = 1
    · rw [if_pos c]
      have : n = 1 := by omega
      subst this
      rfl
    · rw [if_neg c, if_pos ⟨by simp, by omega, by omega, by simp⟩, Int.toNat_natCast]
      rw [show (List.replicate n [D.int row.sum]).flatten = (List.replicate n row.sum).map D.int from List.ext_getElem (by simp) fun k h1 h2 => by simp]
  refine exists_imp_of (fun s' h => (sSeq_nx (sSet_ok h17)).trans h) ?_
  have hB8 := scale_ok (xs := row) (c := (n : Int)) (v := 9) (k := 2) (e := (envL c0 n (some (.int 1)) f5 f6 f7 f8 [some (.lst (row.map D.int)), some (.int m0), some (.lst ((app n a0 row).map D.int)), some (.tup ((row.map ((m0 : Int) * ·)).map D.int)), some (.tup [.str "steps", .tup st1]), some (.int m1), some (.tup ((app n a1 (app n a0 row)).map D.int)), some (.tup (((row.map ((m0 : Int) * ·)).map ((m1 : Int) * ·)).map D.int)), some (.tup ((List.replicate n row.sum).map D.int)), none, none, none, none, none, none, none])) (s := s8) rfl rfl (by decide) rfl (by omega) (by omega) (by omega)
  obtain ⟨t4, k4⟩ := steps_ok (A := eV 17) (e := (envL c0 n (some (.int 1)) f5 f6 f7 f8 [some (.lst (row.map D.int)), some (.int m0), some (.lst ((app n a0 row).map D.int)), some (.tup ((row.map ((m0 : Int) * ·)).map D.int)), some (.tup [.str "steps", .tup st1]), some (.int m1), some (.tup ((app n a1 (app n a0 row)).map D.int)), some (.tup (((row.map ((m0 : Int) * ·)).map ((m1 : Int) * ·)).map D.int)), some (.tup ((List.replicate n row.sum).map D.int)), none, none, none, none, none, none, none])) (s := s8) rfl hB8 hflat (by simp; omega) (by simp; omega)
  have hT9 := hT8.ext t4
  generalize s8 ++ t4 = s9 at hT9 k4
  refine exists_imp_of (fun s' h => (sSeq_nx ((sIf_no k4).trans (sNil_eq _ _))).trans h) ?_
  have h18 := table_of (e := (envL c0 n (some (.int 1)) f5 f6 f7 f8 [some (.lst (row.map D.int)), some (.int m0), some (.lst ((app n a0 row).map D.int)), some (.tup ((row.map ((m0 : Int) * ·)).map D.int)), some (.tup [.str "steps", .tup st1]), some (.int m1), some (.tup ((app n a1 (app n a0 row)).map D.int)), some (.tup (((row.map ((m0 : Int) * ·)).map ((m1 : Int) * ·)).map D.int)), some (.tup ((List.replicate n row.sum).map D.int)), none, none, none, none, none, none, none])) hT9 h5 rfl rfl
  refine exists_imp_of (fun s' h => (sSeq_nx (sSet_ok h18)).trans h) ?_
  obtain ⟨fs, t5, q19, hfs1, hfs2, hfs3, hfs4⟩ := orders_ok h1 h5 (by omega) (by omega) hE0 s9
  have h19 : (eF 1 M_orders_paper (eK (eV 18) (eN))) (envL c0 n (some (.int 1)) f5 f6 f7 f8 [some (.lst (row.map D.int)), some (.int m0), some (.lst ((app n a0 row).map D.int)), some (.tup ((row.map ((m0 : Int) * ·)).map D.int)), some (.tup [.str "steps", .tup st1]), some (.int m1), some (.tup ((app n a1 (app n a0 row)).map D.int)), some (.tup (((row.map ((m0 : Int) * ·)).map ((m1 : Int) * ·)).map D.int)), some (.tup ((List.replicate n row.sum).map D.int)), some (.tup (tabT n a0)), none, none, none, none, none, none]) s9 = .ok (.tup [.str "orders", .tup (fs.map encF)]) (s9 ++ t5) := by
    simp only [eAnd_eq, eOr_eq, eNot_eq, e1_eq, e2_eq, eA_eq, eK_eq, eN_eq, eC_eq, eV_eq, eF_eq, bB_eq, bT_eq, bAnd_eq, bOr_eq, bNot_eq, eT_eq, eL_eq, eIf_eq, eIt_eq, eItA_eq, eM_eq, eSl_eq, oNo_eq, oI_eq, eCh_eq, Res.bind_ok, truthD, envL, List.getElem?_cons_succ, List.getElem?_cons_zero, List.length_cons, List.length_nil, if_true, q19]
  refine exists_imp_of (fun s' h => (sSeq_nx (sSet_ok h19)).trans h) ?_
  generalize s9 ++ t5 = s10
  have hps := pairs_sum (fs := fs) (e := (envL c0 n (some (.int 1)) f5 f6 f7 f8 [some (.lst (row.map D.int)), some (.int m0), some (.lst ((app n a0 row).map D.int)), some (.tup ((row.map ((m0 : Int) * ·)).map D.int)), some (.tup [.str "steps", .tup st1]), some (.int m1), some (.tup ((app n a1 (app n a0 row)).map D.int)), some (.tup (((row.map ((m0 : Int) * ·)).map ((m1 : Int) * ·)).map D.int)), some (.tup ((List.replicate n row.sum).map D.int)), some (.tup (tabT n a0)), some (.tup [.str "orders", .tup (fs.map encF)]), none, none, none, none, none])) (s := s10) rfl rfl hfs4
  have c19 : (bOr (bB (e2 pNe (e2 pIx (eV 19) (eC (.int 0))) (eC (.str "orders")))) (bB (e2 pNe (eA pSum (eK (eLc false (eIt itSq (e2 pIx (eV 19) (eC (.int 1)))) [24] (.nm 24) bYes (e2 pIx (eV 24) (eC (.int 1)))) (eN))) (eV 10)))) (envL c0 n (some (.int 1)) f5 f6 f7 f8 [some (.lst (row.map D.int)), some (.int m0), some (.lst ((app n a0 row).map D.int)), some (.tup ((row.map ((m0 : Int) * ·)).map D.int)), some (.tup [.str "steps", .tup st1]), some (.int m1), some (.tup ((app n a1 (app n a0 row)).map D.int)), some (.tup (((row.map ((m0 : Int) * ·)).map ((m1 : Int) * ·)).map D.int)), some (.tup ((List.replicate n row.sum).map D.int)), some (.tup (tabT n a0)), some (.tup [.str "orders", .tup (fs.map encF)]), none, none, none, none, none]) s10 = .ok false s10 := by
    have b1 : bB (e2 pNe (e2 pIx (eV 19) (eC (.int 0))) (eC (.str "orders"))) (envL c0 n (some (.int 1)) f5 f6 f7 f8 [some (.lst (row.map D.int)), some (.int m0), some (.lst ((app n a0 row).map D.int)), some (.tup ((row.map ((m0 : Int) * ·)).map D.int)), some (.tup [.str "steps", .tup st1]), some (.int m1), some (.tup ((app n a1 (app n a0 row)).map D.int)), some (.tup (((row.map ((m0 : Int) * ·)).map ((m1 : Int) * ·)).map D.int)), some (.tup ((List.replicate n row.sum).map D.int)), some (.tup (tabT n a0)), some (.tup [.str "orders", .tup (fs.map encF)]), none, none, none, none, none]) s10 = .ok false s10 := by
      simp only [eAnd_eq, eOr_eq, eNot_eq, e1_eq, e2_eq, eA_eq, eK_eq, eN_eq, eC_eq, eV_eq, eF_eq, bB_eq, bT_eq, bAnd_eq, bOr_eq, bNot_eq, eT_eq, eL_eq, eIf_eq, eIt_eq, eItA_eq, eM_eq, eSl_eq, oNo_eq, oI_eq, eCh_eq, Res.bind_ok, truthD, envL, List.getElem?_cons_succ, List.getElem?_cons_zero, pIx_zero, pNe_oo]
    have b2 : eV 10 (envL c0 n (some (.int 1)) f5 f6 f7 f8 [some (.lst (row.map D.int)), some (.int m0), some (.lst ((app n a0 row).map D.int)), some (.tup ((row.map ((m0 : Int) * ·)).map D.int)), some (.tup [.str "steps", .tup st1]), some (.int m1), some (.tup ((app n a1 (app n a0 row)).map D.int)), some (.tup (((row.map ((m0 : Int) * ·)).map ((m1 : Int) * ·)).map D.int)), some (.tup ((List.replicate n row.sum).map D.int)), some (.tup (tabT n a0)), some (.tup [.str "orders", .tup (fs.map encF)]), none, none, none, none, none]) s10 = .ok (.int m0) s10 := rfl
    rw [bOr_eq, b1]
    simp only [Res.bind_ok, Bool.false_eq_true, if_false]
    rw [bB_eq, e2_eq, hps]
    simp only [Res.bind_ok]
    rw [b2]
    simp only [Res.bind_ok, hfs1, pNe_int, decide_true, Bool.not_true]
  refine exists_imp_of (fun s' h => (sSeq_nx ((sIf_no c19).trans (sNil_eq _ _))).trans h) ?_
  have h20 := back_ok (e := (envL c0 n (some (.int 1)) f5 f6 f7 f8 [some (.lst (row.map D.int)), some (.int m0), some (.lst ((app n a0 row).map D.int)), some (.tup ((row.map ((m0 : Int) * ·)).map D.int)), some (.tup [.str "steps", .tup st1]), some (.int m1), some (.tup ((app n a1 (app n a0 row)).map D.int)), some (.tup (((row.map ((m0 : Int) * ·)).map ((m1 : Int) * ·)).map D.int)), some (.tup ((List.replicate n row.sum).map D.int)), some (.tup (tabT n a0)), some (.tup [.str "orders", .tup (fs.map encF)]), none, none, none, none, none])) (s := s10) rfl rfl rfl rfl h5 hfs4 hrl hrb hfs3 hfs2
  refine exists_imp_of (fun s' h => (sSeq_nx (sSet_ok h20)).trans h) ?_
  refine ⟨s10, sRet_ok ?_⟩
  show (e2 pEq (eV 20) (eV 11)) (envL c0 n (some (.int 1)) f5 f6 f7 f8 [some (.lst (row.map D.int)), some (.int m0), some (.lst ((app n a0 row).map D.int)), some (.tup ((row.map ((m0 : Int) * ·)).map D.int)), some (.tup [.str "steps", .tup st1]), some (.int m1), some (.tup ((app n a1 (app n a0 row)).map D.int)), some (.tup (((row.map ((m0 : Int) * ·)).map ((m1 : Int) * ·)).map D.int)), some (.tup ((List.replicate n row.sum).map D.int)), some (.tup (tabT n a0)), some (.tup [.str "orders", .tup (fs.map encF)]), some (.lst ((app n a0 row).map D.int)), none, none, none, none]) s10 = _
  simp only [eAnd_eq, eOr_eq, eNot_eq, e1_eq, e2_eq, eA_eq, eK_eq, eN_eq, eC_eq, eV_eq, eF_eq, bB_eq, bT_eq, bAnd_eq, bOr_eq, bNot_eq, eT_eq, eL_eq, eIf_eq, eIt_eq, eItA_eq, eM_eq, eSl_eq, oNo_eq, oI_eq, eCh_eq, Res.bind_ok, truthD, envL, List.getElem?_cons_succ, List.getElem?_cons_zero, pEq_lst, decide_true]
end K54

open PySem PySem.W PyProof.Rows
set_option maxRecDepth 100000 in
set_option maxHeartbeats 0 in
theorem PySem.Challenge.cw_cornersandfaces_k54_whole_tables_and_mea_holds : PySem.Challenge.rw_cornersandfaces_k54_whole_tables_and_mea.Holds := by
  w_on; o_law; k_head; (case hw => w_witness2)
  k_fill
  refine L2.walk_of (l := PySem.Challenge.rw_cornersandfaces_k54_whole_tables_and_mea) (n := 63) (k := 4) (x := "script") (CX := fun w => L2.CX PySem.Challenge.rw_cornersandfaces_k54_whole_tables_and_mea.prog w) (sp := fun w => Cf.spL _ K54.M_law) rfl (by decide) rfl ⟨rfl, by decide, by decide⟩ (fun w h Y => PySem.W.kIn_of Y) ?F (fun _ _ a ns hl hO hS => Cf.spL_start hO hS (K54.law_true ns hl)) (fun _ _ _ _ _ h => Cf.cx_end h)
  case F =>
    intro w mg fa h KX G hmg
    refine' K54.all_mk KX G hmg ?a0 ?l0 ?c0 ?k0 ?a1 ?l1 ?c1 ?k1 ?a2 ?l2 ?c2 ?k2 ?a3 ?l3 ?c3 ?k3 ?a4 ?l4 ?c4 ?k4 ?a5 ?l5 ?c5 ?k5 ?a6 ?l6 ?c6 ?k6 ?a7 ?l7 ?c7 ?k7 ?a8 ?l8 ?c8 ?k8 ?a9 ?l9 ?c9 ?k9 ?a10 ?l10 ?c10 ?k10 ?a11 ?l11 ?c11 ?k11 ?z0 ?z1 ?z2 ?z3 ?z4 ?z5 ?z6 ?z7 ?z8 ?z9 ?z10 ?z11 ?z12 ?n0 ?n1
    (case a0 => k_is)
    (case l0 => k_is)
    (case c0 => k_is)
    (case k0 => k_is)
    (case a1 => k_is)
    (case l1 => k_is)
    (case c1 => k_is)
    (case k1 => k_is)
    (case a2 => k_is)
    (case l2 => k_is)
    (case c2 => k_is)
    (case k2 => k_is)
    (case a3 => k_is)
    (case l3 => k_is)
    (case c3 => k_is)
    (case k3 => k_is)
    (case a4 => k_is)
    (case l4 => k_is)
    (case c4 => k_is)
    (case k4 => k_is)
    (case a5 => k_is)
    (case l5 => k_is)
    (case c5 => k_is)
    (case k5 => k_is)
    (case a6 => k_is)
    (case l6 => k_is)
    (case c6 => k_is)
    (case k6 => k_is)
    (case a7 => k_is)
    (case l7 => k_is)
    (case c7 => k_is)
    (case k7 => k_is)
    (case a8 => k_is)
    (case l8 => k_is)
    (case c8 => k_is)
    (case k8 => k_is)
    (case a9 => k_is)
    (case l9 => k_is)
    (case c9 => k_is)
    (case k9 => k_is)
    (case a10 => k_is)
    (case l10 => k_is)
    (case c10 => k_is)
    (case k10 => k_is)
    (case a11 => k_is)
    (case l11 => k_is)
    (case c11 => k_is)
    (case k11 => k_is)
    (case z0 => k_is)
    (case z1 => k_is)
    (case z2 => k_is)
    (case z3 => k_is)
    (case z4 => k_is)
    (case z5 => k_is)
    (case z6 => k_is)
    (case z7 => k_is)
    (case z8 => k_is)
    (case z9 => k_is)
    (case z10 => k_is)
    (case z11 => k_is)
    (case z12 => k_is)
    (case n0 => k_is)
    (case n1 => k_is)

