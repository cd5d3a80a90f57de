import PyProof.Rows.All
import Wide.All
import OpenK.AllK
import Wide.FinOn
import HandS.ForMost
import HandS.NoneIn
import HandS.IsInst
import HandS.Wide
import HandS.Style
import HandS.SortInts
import HandS.Conv
import HandS.Walk
import HandS.More
import HandS.Rev
import HandS.RevTup
import HandS.MakeKw
import HandS.Property
import HandS.TryOnly
import HandS.ExcIs
import HandS.ExcOwn
import HandS.TupMul
import HandS.TupAny
import HandS.AnyAll
import HandS.Defaults
import HandS.Dict
import HandS.EndOwn
import HandS.WordsExc
import KE.GoesMore
import PyProof.StrBlock2
import PySem.Challenge.RW_segmentfs_k49_entries_as_octets
set_option Elab.async false
set_option linter.all false
set_option autoImplicit false
set_option maxRecDepth 100000
set_option maxHeartbeats 4000000
/-! ### the state of a walk: assertions on parts of the heap, what is frozen -/
namespace G
open PySem PySem.Spec PyProof.Rows L2
def Le (Z Z' : Hp) : Prop := ∀ a o, Z a = some o → Z' a = some o
theorem Le.refl (Z : Hp) : Le Z Z := fun _ _ h => h
theorem Le.trans {Z Z' Z'' : Hp} (h : Le Z Z') (k : Le Z' Z'') : Le Z Z'' := fun a o e => k a o (h a o e)
theorem Le.up {Z : Hp} {p : Addr} {o : HO} (h : Z p = none) : Le Z (upd Z p o) := fun a u e => by
  rw [upd_ne (fun z => by rw [z, h] at e; cases e)]; exact e
theorem Le.rd {Z Z' : Hp} (h : Le Z Z') {a : Addr} {u : HO} (r : Rd Z a u) : Rd Z' a u := by
  rcases r with r | ⟨o, r⟩
  · exact .inl (h _ _ r)
  · exact .inr ⟨o, h _ _ r⟩
theorem Le.sq {K : PySem.W.Frag} {Z Z' : Hp} (h : Le Z Z') {a : Addr} {xs : List V} (r : SqL K Z a xs) : SqL K Z' a xs := r.imp_left h.rd
theorem Le.st {K : PySem.W.Frag} {Z Z' : Hp} (h : Le Z Z') {a : Addr} {xs : List V} (r : SqT K Z a xs) : SqT K Z' a xs := r.imp_left h.rd
mutual
theorem Le.dp {K : PySem.W.Frag} {Z Z' : Hp} (h : Le Z Z') : ∀ {d : PyData} {v : V}, Dp K Z v d → Dp K Z' v d
  | .none, _, r => by cases r; exact .non
  | .bool b, _, r => by cases r; exact .bl b
  | .int i, _, r => by cases r; exact .int i
  | .str x, _, r => by cases r; exact .str x
  | .list ds, _, r => by
    cases r with
    | lst s q => exact .lst (h.sq s) (Le.dps h q)
  | .tuple ds, _, r => by
    cases r with
    | tup s q => exact .tup (h.st s) (Le.dps h q)
  | .dict ds, _, r => by cases r
theorem Le.dps {K : PySem.W.Frag} {Z Z' : Hp} (h : Le Z Z') : ∀ {ds : List PyData} {vs : List V}, DpAll K Z vs ds → DpAll K Z' vs ds
  | [], _, r => by cases r; exact .nil
  | d :: ds, _, r => by
    cases r with
    | cons a b => exact .cons (Le.dp h a) (Le.dps h b)
end
/-- an assertion: on a footprint, with the frozen part, in the heap -/
structure As where
  on : (Addr → Prop) → Hp → Hp → Prop
  per : Bool
  mono : ∀ {S : Addr → Prop} {Z Z' H H' : Hp}, Le Z Z' → (∀ a o, S a → H a = some o → H' a = some o) → on S Z H → on S Z' H'
  free : per = true → ∀ {S T : Addr → Prop} {Z H : Hp}, on S Z H → on T Z H
def c (a : Addr) (o : HO) : As := ⟨fun S _ H => S a ∧ H a = some o, false, fun _ k h => ⟨h.1, k _ _ h.1 h.2⟩, fun h => nomatch h⟩
def pz (P : Hp → Prop) (m : ∀ {Z Z' : Hp}, Le Z Z' → P Z → P Z') : As := ⟨fun _ Z _ => P Z, true, fun h _ k => m h k, fun _ _ _ _ _ h => h⟩
def fz (a : Addr) (o : HO) : As := pz (fun Z => Z a = some o) (fun h => h a o)
def sq (K : PySem.W.Frag) (a : Addr) (xs : List V) : As := pz (fun Z => SqL K Z a xs) (fun h k => h.sq k)
def st (K : PySem.W.Frag) (a : Addr) (xs : List V) : As := pz (fun Z => SqT K Z a xs) (fun h k => h.st k)
def dat (K : PySem.W.Frag) (v : V) (d : PyData) : As := pz (fun Z => Dp K Z v d) (fun h k => h.dp k)
def dats (K : PySem.W.Frag) (vs : List V) (ds : List PyData) : As := pz (fun Z => DpAll K Z vs ds) (fun h k => h.dps k)
/-- a list of data -/
def ld (K : PySem.W.Frag) (a : Addr) (vs : List V) (ds : List PyData) : As := ⟨fun S Z H => S a ∧ H a = some (.lst vs) ∧ DpAll K Z vs ds, false, fun l k h => ⟨h.1, k _ _ h.1 h.2.1, l.dps h.2.2⟩, fun h => nomatch h⟩
/-- a dict of data -/
def dd (K : PySem.W.Frag) (a : Addr) (kvs : List (Key × V)) (ds : List PyData) : As := ⟨fun S Z H => S a ∧ H a = some (.dK kvs) ∧ DpAll K Z (kvs.map Prod.snd) ds, false, fun l k h => ⟨h.1, k _ _ h.1 h.2.1, l.dps h.2.2⟩, fun h => nomatch h⟩
def ex {α : Type} (f : α → As) : As := ⟨fun S Z H => ∃ x, (f x).on S Z H, false, fun l k ⟨x, h⟩ => ⟨x, (f x).mono l k h⟩, fun h => nomatch h⟩
/-- footprints of a row of assertions -/
structure Own (L : List As) (Z H : Hp) (S : Nat → Addr → Prop) : Prop where
  on : ∀ (i : Nat) (A : As), L[i]? = some A → A.on (S i) Z H
  dj : ∀ i j a, S i a → S j a → i = j
def all (L : List As) : As := ⟨fun T Z H => ∃ S, Own L Z H S ∧ ∀ i a, S i a → T a, false, fun l k ⟨S, h, t⟩ => ⟨S, ⟨fun i A e => A.mono l (fun a o y => k a o (t i a y)) (h.on i A e), h.dj⟩, t⟩, fun h => nomatch h⟩
/-- F: what may change of B; Y: what was frozen at the start; Z: what is frozen now -/
structure Hs (F : Addr → Prop) (B Y : Hp) (L : List As) (H Z : Hp) : Prop where
  fr : ∀ a o, B a = some o → ¬ F a → H a = some o
  al : ∀ a, H a = none → B a = none
  zh : Le Z H
  yz : Le Y Z
  zy : ∀ a o, Z a = some o → Y a = some o ∨ F a ∨ B a = none
  yf : ∀ a, F a → Y a = none
  own : ∃ S, Own L Z H S ∧ ∀ i a, S i a → (F a ∨ B a = none) ∧ H a ≠ none ∧ Z a = none
section
variable {F : Addr → Prop} {B Y H Z H' Z' : Hp} {L L' R N : List As} {p : Addr} {o o' : HO} {A : As} {K : PySem.W.Frag} {xs : List V} {ds : List PyData} {v : V} {d : PyData}
theorem Hs.at (s : Hs F B Y L H Z) (i : Nat) (h : L[i]? = some A) : ∃ S : Addr → Prop, A.on S Z H ∧ ∀ a, S a → (F a ∨ B a = none) ∧ H a ≠ none ∧ Z a = none := by
  obtain ⟨S, w, q⟩ := s.own
  exact ⟨S i, w.on i A h, q i⟩
theorem Hs.mem (s : Hs F B Y L H Z) (i : Nat) (h : L[i]? = some (c p o)) : H p = some o := by
  obtain ⟨S, w, _⟩ := s.at i h; exact w.2
theorem Hs.memd (s : Hs F B Y L H Z) (i : Nat) (h : L[i]? = some (ld K p xs ds)) : H p = some (.lst xs) := by
  obtain ⟨S, w, _⟩ := s.at i h; exact w.2.1
theorem Hs.lds (s : Hs F B Y L H Z) (i : Nat) (h : L[i]? = some (ld K p xs ds)) : DpAll K Z xs ds := by
  obtain ⟨S, w, _⟩ := s.at i h; exact w.2.2
theorem Hs.memk {kvs : List (Key × V)} (s : Hs F B Y L H Z) (i : Nat) (h : L[i]? = some (dd K p kvs ds)) : H p = some (.dK kvs) := by
  obtain ⟨S, w, _⟩ := s.at i h; exact w.2.1
theorem Hs.dds {kvs : List (Key × V)} (s : Hs F B Y L H Z) (i : Nat) (h : L[i]? = some (dd K p kvs ds)) : DpAll K Z (kvs.map Prod.snd) ds := by
  obtain ⟨S, w, _⟩ := s.at i h; exact w.2.2
theorem Hs.fzm (s : Hs F B Y L H Z) (i : Nat) (h : L[i]? = some (fz p o)) : H p = some o := by
  obtain ⟨S, w, _⟩ := s.at i h; exact s.zh _ _ w
theorem Hs.dat (s : Hs F B Y L H Z) (i : Nat) (h : L[i]? = some (G.dat K v d)) : Dp K Z v d := by
  obtain ⟨S, w, _⟩ := s.at i h; exact w
theorem Hs.dats (s : Hs F B Y L H Z) (i : Nat) (h : L[i]? = some (G.dats K xs ds)) : DpAll K Z xs ds := by
  obtain ⟨S, w, _⟩ := s.at i h; exact w
theorem Hs.l (s : Hs F B Y L H Z) (i : Nat) (h : L[i]? = some (c p (.lst xs))) : SqL K H p xs := SqL.of (s.mem i h)
theorem Hs.ll (s : Hs F B Y L H Z) (i : Nat) (h : L[i]? = some (ld K p xs ds)) : SqL K H p xs := SqL.of (s.memd i h)
theorem Hs.t (s : Hs F B Y L H Z) (i : Nat) (h : L[i]? = some (c p (.tup xs))) : SqT K H p xs := SqT.of (s.mem i h)
theorem Hs.zl (s : Hs F B Y L H Z) (i : Nat) (h : L[i]? = some (fz p (.lst xs))) : SqL K H p xs := SqL.of (s.fzm i h)
theorem Hs.zt (s : Hs F B Y L H Z) (i : Nat) (h : L[i]? = some (fz p (.tup xs))) : SqT K H p xs := SqT.of (s.fzm i h)
theorem Hs.sql (s : Hs F B Y L H Z) (i : Nat) (h : L[i]? = some (sq K p xs)) : SqL K H p xs := by
  obtain ⟨S, w, _⟩ := s.at i h; exact s.zh.sq w
theorem Hs.sqt (s : Hs F B Y L H Z) (i : Nat) (h : L[i]? = some (st K p xs)) : SqT K H p xs := by
  obtain ⟨S, w, _⟩ := s.at i h; exact s.zh.st w
theorem Hs.dh (s : Hs F B Y L H Z) (h : Dp K Z v d) : Dp K H v d := s.zh.dp h
theorem Hs.dhs (s : Hs F B Y L H Z) (h : DpAll K Z xs ds) : DpAll K H xs ds := s.zh.dps h
/-- rows of footprints by their places -/
def ft (S : Nat → Addr → Prop) (is : List Nat) (i : Nat) (a : Addr) : Prop := ∃ k, is[i]? = some k ∧ S k a
theorem nodup_ix {is : List Nat} (hn : is.Nodup) {i j k : Nat} (h : is[i]? = some k) (h' : is[j]? = some k) : i = j := by
  obtain ⟨a, ea⟩ := List.getElem?_eq_some_iff.mp h
  obtain ⟨b, eb⟩ := List.getElem?_eq_some_iff.mp h'
  exact (List.getElem_inj hn).mp (ea.trans eb.symm)
theorem Own.pick {S : Nat → Addr → Prop} (w : Own L Z H S) (is : List Nat) (hn : is.Nodup) (h : is.map (fun i => L[i]?) = L'.map some) : Own L' Z H (ft S is) := by
  refine ⟨fun i A e => ?_, fun i j a ⟨k, ek, hk⟩ ⟨m, em, hm⟩ => ?_⟩
  · have e2 : (is.map (fun i => L[i]?))[i]? = some (some A) := by rw [h, List.getElem?_map, e]; rfl
    rw [List.getElem?_map] at e2
    cases ek : is[i]? with
    | none => rw [ek] at e2; cases e2
    | some k =>
      rw [ek] at e2
      have e3 : L[k]? = some A := Option.some.inj e2
      refine A.mono (Le.refl _) (fun a o _ y => y) ?_
      have := w.on k A e3
      have hs : S k = ft S is i := by
        funext a; apply propext
        exact ⟨fun y => ⟨k, ek, y⟩, fun ⟨m, em, y⟩ => by rw [ek] at em; cases em; exact y⟩
      rw [← hs]; exact this
  · have := w.dj k m a hk hm
    subst this
    exact nodup_ix hn ek em
theorem Hs.pick (s : Hs F B Y L H Z) (is : List Nat) (hn : is.Nodup) (h : is.map (fun i => L[i]?) = L'.map some) : Hs F B Y L' H Z := by
  obtain ⟨S, w, q⟩ := s.own
  exact ⟨s.fr, s.al, s.zh, s.yz, s.zy, s.yf, ft S is, w.pick is hn h, fun i a ⟨k, _, y⟩ => q k a y⟩
theorem Hs.cg (e : L' = L) (s : Hs F B Y L H Z) : Hs F B Y L' H Z := e ▸ s
def sc (P : Addr → Prop) (S : Nat → Addr → Prop) : Nat → Addr → Prop
  | 0 => P
  | i + 1 => S i
theorem Own.cons {S : Nat → Addr → Prop} {P : Addr → Prop} (w : Own L Z H S) (h : A.on P Z H) (dj : ∀ i a, P a → ¬ S i a) : Own (A :: L) Z H (sc P S) := by
  refine ⟨fun i B e => ?_, fun i j a x y => ?_⟩
  · cases i with
    | zero => cases e; exact h
    | succ i => exact w.on i B e
  · cases i with
    | zero => cases j with
      | zero => rfl
      | succ j => exact False.elim (dj j a x y)
    | succ i => cases j with
      | zero => exact False.elim (dj i a y x)
      | succ j => exact congrArg Nat.succ (w.dj i j a x y)
/-- a fact of what is frozen -/
theorem Hs.add (s : Hs F B Y L H Z) (A : As) (h : A.on (fun _ => False) Z H) : Hs F B Y (A :: L) H Z := by
  obtain ⟨S, w, q⟩ := s.own
  refine ⟨s.fr, s.al, s.zh, s.yz, s.zy, s.yf, sc (fun _ => False) S, w.cons h (fun _ _ x => False.elim x), fun i a y => ?_⟩
  cases i with
  | zero => exact False.elim y
  | succ i => exact q i a y
theorem Hs.addD (s : Hs F B Y L H Z) (h : Dp K Z v d) : Hs F B Y (G.dat K v d :: L) H Z := s.add _ h
theorem Hs.addDs (s : Hs F B Y L H Z) (h : DpAll K Z xs ds) : Hs F B Y (G.dats K xs ds :: L) H Z := s.add _ h
theorem Hs.dup (s : Hs F B Y L H Z) (i : Nat) (h : L[i]? = some A) (hp : A.per = true) : Hs F B Y (A :: L) H Z := by
  obtain ⟨S, w, _⟩ := s.at i h
  exact s.add A (A.free hp w)
theorem Own.grow {S : Nat → Addr → Prop} (w : Own L Z H S) (l : Le Z Z') (k : ∀ i a o, S i a → H a = some o → H' a = some o) : Own L Z' H' S :=
  ⟨fun i A e => A.mono l (k i) (w.on i A e), w.dj⟩
theorem Hs.new (s : Hs F B Y L H Z) (np : H p = none) (o : HO) : Hs F B Y (c p o :: L) (upd H p o) Z := by
  obtain ⟨S, w, q⟩ := s.own
  have ne : ∀ a u, H a = some u → a ≠ p := fun a u e z => by rw [z, np] at e; cases e
  have up : ∀ a u, H a = some u → upd H p o a = some u := fun a u e => by rw [upd_ne (ne a u e)]; exact e
  have zp : Z p = none := by
    cases e : Z p with
    | none => rfl
    | some u => have := s.zh _ _ e; rw [np] at this; cases this
  refine ⟨fun a u e hf => up a u (s.fr a u e hf), fun a e => ?_, fun a u e => up a u (s.zh a u e), s.yz, s.zy, s.yf, sc (fun a => a = p) S, (w.grow (Le.refl _) (fun i a u _ e => up a u e)).cons ⟨rfl, upd_same⟩ (fun i a x y => ?_), fun i a y => ?_⟩
  · by_cases z : a = p
    · rw [z, upd_same] at e; cases e
    · rw [upd_ne z] at e; exact s.al a e
  · exact (q i a y).2.1 (x ▸ np)
  · cases i with
    | zero =>
      have y' : a = p := y
      subst y'
      refine ⟨.inr (s.al a np), ?_, zp⟩
      rw [upd_same]; exact fun z => nomatch z
    | succ i =>
      have := q i a y
      refine ⟨this.1, ?_, this.2.2⟩
      cases e : H a with
      | none => exact (this.2.1 e).elim
      | some u => rw [up a u e]; exact fun z => nomatch z
/-- a new thing that is frozen at once -/
theorem Hs.newz (s : Hs F B Y L H Z) (np : H p = none) (o : HO) : Hs F B Y (fz p o :: L) (upd H p o) (upd Z p o) := by
  obtain ⟨S, w, q⟩ := s.own
  have ne : ∀ a u, H a = some u → a ≠ p := fun a u e z => by rw [z, np] at e; cases e
  have up : ∀ a u, H a = some u → upd H p o a = some u := fun a u e => by rw [upd_ne (ne a u e)]; exact e
  have zp : Z p = none := by
    cases e : Z p with
    | none => rfl
    | some u => have := s.zh _ _ e; rw [np] at this; cases this
  refine ⟨fun a u e hf => up a u (s.fr a u e hf), fun a e => ?_, fun a u e => ?_, fun a u e => Le.up zp _ _ (s.yz a u e), fun a u e => ?_, s.yf, sc (fun _ => False) S, (w.grow (Le.up zp) (fun i a u _ e => up a u e)).cons upd_same (fun i a x y => False.elim x), fun i a y => ?_⟩
  · by_cases z : a = p
    · rw [z, upd_same] at e; cases e
    · rw [upd_ne z] at e; exact s.al a e
  · by_cases z : a = p
    · rw [z, upd_same] at e; rw [z, upd_same]; exact e
    · rw [upd_ne z] at e; exact up a u (s.zh a u e)
  · by_cases z : a = p
    · rw [z]; exact .inr (.inr (s.al p np))
    · rw [upd_ne z] at e; exact s.zy a u e
  · cases i with
    | zero => exact False.elim y
    | succ i =>
      have := q i a y
      have na : a ≠ p := fun z => this.2.1 (z ▸ np)
      refine ⟨this.1, ?_, ?_⟩
      · rw [upd_ne na]; exact this.2.1
      · rw [upd_ne na]; exact this.2.2
theorem Hs.newT (s : Hs F B Y L H Z) (np : H p = none) (h : DpAll K Z xs ds) : Hs F B Y (G.dat K (.ref p) (.tuple ds) :: L) (upd H p (.tup xs)) (upd Z p (.tup xs)) := by
  have s1 := s.newz np (.tup xs)
  have zp : Z p = none := by
    cases e : Z p with
    | none => rfl
    | some u => have := s.zh _ _ e; rw [np] at this; cases this
  have s2 := s1.addD (K := K) (v := .ref p) (d := .tuple ds) (.tup (SqT.of upd_same) ((Le.up zp).dps h))
  have e : (List.range (L.length + 2)).map (fun i => (G.dat K (.ref p) (.tuple ds) :: fz p (.tup xs) :: L)[i]?) = (G.dat K (.ref p) (.tuple ds) :: fz p (.tup xs) :: L).map some := by
    refine List.ext_getElem? fun j => ?_
    rw [List.getElem?_map, List.getElem?_map]
    by_cases hj : j < L.length + 2
    · rw [List.getElem?_range hj]
      have : j < (G.dat K (.ref p) (.tuple ds) :: fz p (.tup xs) :: L).length := by simp; omega
      rw [List.getElem?_eq_getElem this]
      show some (_)[j]? = _
      rw [List.getElem?_eq_getElem this]; rfl
    · rw [List.getElem?_eq_none (by rw [List.length_range]; omega), List.getElem?_eq_none (by simp; omega)]; rfl
  refine s2.pick (0 :: (List.range L.length).map (· + 2)) ?_ ?_
  · refine List.nodup_cons.mpr ⟨fun h => ?_, ?_⟩
    · obtain ⟨j, _, e⟩ := List.mem_map.mp h; cases e
    · rw [List.nodup_iff_pairwise_ne, List.pairwise_map]
      exact (List.nodup_iff_pairwise_ne.mp List.nodup_range).imp (fun h e => h (by omega))
  · show _ :: _ = _ :: _
    refine congrArg (List.cons _) ?_
    rw [List.map_map]
    refine List.ext_getElem? fun j => ?_
    rw [List.getElem?_map, List.getElem?_map]
    by_cases hj : j < L.length
    · rw [List.getElem?_range hj, List.getElem?_eq_getElem hj]
      show some L[j]? = _
      rw [List.getElem?_eq_getElem hj]; rfl
    · rw [List.getElem?_eq_none (by rw [List.length_range]; omega), List.getElem?_eq_none (by omega)]; rfl
/-- what stood alone in a cell, written -/
theorem Hs.wrG (s : Hs F B Y L H Z) (i : Nat) (A A' : As) (o' : HO) (h : L[i]? = some A) (ha : ∀ S : Addr → Prop, A.on S Z H → S p ∧ A'.on S Z (upd H p o')) : Hs F B Y (L.set i A') (upd H p o') Z := by
  obtain ⟨S, w, q⟩ := s.own
  obtain ⟨sp, w'⟩ := ha (S i) (w.on i A h)
  have qp := q i p sp
  refine ⟨fun a u e hf => ?_, fun a e => ?_, fun a u e => ?_, s.yz, s.zy, s.yf, S, ⟨fun j C e => ?_, w.dj⟩, fun j a y => ?_⟩
  · have z : a ≠ p := fun z => by
      rw [z] at e hf
      rcases qp.1 with y | y
      · exact hf y
      · rw [e] at y; cases y
    rw [upd_ne z]; exact s.fr a u e hf
  · by_cases z : a = p
    · rw [z, upd_same] at e; cases e
    · rw [upd_ne z] at e; exact s.al a e
  · have z : a ≠ p := fun z => by rw [z, qp.2.2] at e; cases e
    rw [upd_ne z]; exact s.zh a u e
  · by_cases e2 : i = j
    · subst e2
      rw [List.getElem?_set_self (List.getElem?_eq_some_iff.mp h).1] at e
      cases e; exact w'
    · rw [List.getElem?_set_ne e2] at e
      refine C.mono (Le.refl _) (fun a u y k => ?_) (w.on j C e)
      have z : a ≠ p := fun z => e2 (w.dj i j p sp (z ▸ y))
      rw [upd_ne z]; exact k
  · refine ⟨(q j a y).1, ?_, (q j a y).2.2⟩
    by_cases z : a = p
    · rw [z, upd_same]; exact fun z => nomatch z
    · rw [upd_ne z]; exact (q j a y).2.1
theorem Hs.wr (s : Hs F B Y L H Z) (i : Nat) (o' : HO) (h : L[i]? = some (c p o)) : Hs F B Y (L.set i (c p o')) (upd H p o') Z :=
  s.wrG i _ _ o' h fun _ w => ⟨w.1, w.1, upd_same⟩
theorem Hs.wrd {ys : List V} {es : List PyData} (s : Hs F B Y L H Z) (i : Nat) (h : L[i]? = some (ld K p xs ds)) (k : DpAll K Z xs ds → DpAll K Z ys es) : Hs F B Y (L.set i (ld K p ys es)) (upd H p (.lst ys)) Z :=
  s.wrG i _ _ _ h fun _ w => ⟨w.1, w.1, upd_same, k w.2.2⟩
theorem Hs.wrk {kvs kvs' : List (Key × V)} {es : List PyData} (s : Hs F B Y L H Z) (i : Nat) (h : L[i]? = some (dd K p kvs ds)) (k : DpAll K Z (kvs.map Prod.snd) ds → DpAll K Z (kvs'.map Prod.snd) es) : Hs F B Y (L.set i (dd K p kvs' es)) (upd H p (.dK kvs')) Z :=
  s.wrG i _ _ _ h fun _ w => ⟨w.1, w.1, upd_same, k w.2.2⟩
/-- another saying of the same part -/
theorem Hs.as (s : Hs F B Y L H Z) (i : Nat) (A A' : As) (h : L[i]? = some A) (ha : ∀ S : Addr → Prop, A.on S Z H → A'.on S Z H) : Hs F B Y (L.set i A') H Z := by
  obtain ⟨S, w, q⟩ := s.own
  refine ⟨s.fr, s.al, s.zh, s.yz, s.zy, s.yf, S, ⟨fun j C e => ?_, w.dj⟩, q⟩
  by_cases e2 : i = j
  · subst e2
    rw [List.getElem?_set_self (List.getElem?_eq_some_iff.mp h).1] at e
    cases e; exact ha _ (w.on i A h)
  · rw [List.getElem?_set_ne e2] at e; exact w.on j C e
theorem Hs.c2d (s : Hs F B Y L H Z) (i : Nat) (h : L[i]? = some (c p (.lst xs))) (k : DpAll K Z xs ds) : Hs F B Y (L.set i (ld K p xs ds)) H Z := s.as i _ _ h fun _ w => ⟨w.1, w.2, k⟩
theorem Hs.d2c (s : Hs F B Y L H Z) (i : Nat) (h : L[i]? = some (ld K p xs ds)) : Hs F B Y (L.set i (c p (.lst xs))) H Z := s.as i _ _ h fun _ w => ⟨w.1, w.2.1⟩
theorem Hs.cgd {es : List PyData} (s : Hs F B Y L H Z) (i : Nat) (h : L[i]? = some (ld K p xs ds)) (k : DpAll K Z xs ds → DpAll K Z xs es) : Hs F B Y (L.set i (ld K p xs es)) H Z := s.as i _ _ h fun _ w => ⟨w.1, w.2.1, k w.2.2⟩
theorem Hs.unex {α : Type} {f : α → As} (s : Hs F B Y L H Z) (i : Nat) (h : L[i]? = some (ex f)) : ∃ x, Hs F B Y (L.set i (f x)) H Z := by
  obtain ⟨S, ⟨x, w⟩, _⟩ := s.at i h
  obtain ⟨S, w, q⟩ := s.own
  obtain ⟨x, wx⟩ := w.on i _ h
  refine ⟨x, s.fr, s.al, s.zh, s.yz, s.zy, s.yf, S, ⟨fun j C e => ?_, w.dj⟩, q⟩
  by_cases e2 : i = j
  · subst e2
    rw [List.getElem?_set_self (List.getElem?_eq_some_iff.mp h).1] at e
    cases e; exact wx
  · rw [List.getElem?_set_ne e2] at e; exact w.on j C e
theorem Hs.inex {α : Type} {f : α → As} (s : Hs F B Y L H Z) (i : Nat) (x : α) (h : L[i]? = some (f x)) : Hs F B Y (L.set i (ex f)) H Z := s.as i _ _ h fun _ w => ⟨x, w⟩
/-- what was one's own is frozen from now on -/
theorem Hs.frz (s : Hs F B Y L H Z) (i : Nat) (h : L[i]? = some (c p o)) : Hs F B Y (L.set i (fz p o)) H (upd Z p o) := by
  obtain ⟨S, w, q⟩ := s.own
  have wi := w.on i _ h
  have qp := q i p wi.1
  refine ⟨s.fr, s.al, fun a u e => ?_, fun a u e => Le.up qp.2.2 _ _ (s.yz a u e), fun a u e => ?_, s.yf, fun j a => S j a ∧ j ≠ i, ⟨fun j C e => ?_, fun j k a x y => w.dj j k a x.1 y.1⟩, fun j a y => ?_⟩
  · by_cases z : a = p
    · rw [z, upd_same] at e; rw [z, ← e]; exact wi.2
    · rw [upd_ne z] at e; exact s.zh a u e
  · by_cases z : a = p
    · rw [z]
      exact .inr qp.1
    · rw [upd_ne z] at e; exact s.zy a u e
  · by_cases e2 : i = j
    · subst e2
      rw [List.getElem?_set_self (List.getElem?_eq_some_iff.mp h).1] at e
      cases e; exact upd_same
    · rw [List.getElem?_set_ne e2] at e
      have e3 : (fun a => S j a ∧ j ≠ i) = S j := by funext a; exact propext ⟨fun y => y.1, fun y => ⟨y, fun z => e2 z.symm⟩⟩
      rw [e3]
      exact C.mono (Le.up qp.2.2) (fun a u _ k => k) (w.on j C e)
  · have := q j a y.1
    refine ⟨this.1, this.2.1, ?_⟩
    have z : a ≠ p := fun z => y.2 (w.dj j i p (z ▸ y.1) wi.1)
    rw [upd_ne z]; exact this.2.2
theorem Hs.frzd (s : Hs F B Y L H Z) (i : Nat) (h : L[i]? = some (ld K p xs ds)) : Hs F B Y (L.set i (G.dat K (.ref p) (.list ds))) H (upd Z p (.lst xs)) := by
  have hd := s.lds i h
  have s1 := (s.d2c i h).frz i (p := p) (o := .lst xs) (by rw [List.getElem?_set_self (List.getElem?_eq_some_iff.mp h).1])
  have zp : Z p = none := by
    obtain ⟨S, w, q⟩ := s.at i h
    exact (q p w.1).2.2
  have s2 := s1.as i _ (G.dat K (.ref p) (.list ds)) (by rw [List.getElem?_set_self (by rw [List.length_set]; exact (List.getElem?_eq_some_iff.mp h).1)]) (fun S w => by
    refine .lst (SqL.of w) ((Le.up zp).dps hd))
  rw [List.set_set, List.set_set] at s2
  exact s2
def apd (n : Nat) (S T : Nat → Addr → Prop) (i : Nat) : Addr → Prop := if i < n then S i else T (i - n)
/-- a call: what is handed over (js), what stays (rs); facts of frozen things may do both -/
theorem Hs.give (s : Hs F B Y L H Z) (js rs : List Nat) (hj : js.Nodup) (hr : rs.Nodup) (hd : ∀ i ∈ js, i ∈ rs → (L[i]?).map As.per = some true) (P R : List As) (ej : js.map (fun i => L[i]?) = P.map some) (er : rs.map (fun i => L[i]?) = R.map some) :
    ∃ G, Hs G H Z P H Z ∧ ∀ N H' Z', Hs G H Z N H' Z' → Hs F B Y (N ++ R) H' Z' := by
  obtain ⟨S0, w0, q0⟩ := s.own
  -- facts of frozen things need no footprint
  let S : Nat → Addr → Prop := fun i a => S0 i a ∧ (L[i]?).map As.per ≠ some true
  have w : Own L Z H S := ⟨fun i A e => by
    by_cases hp : A.per = true
    · exact A.free hp (w0.on i A e)
    · have : S i = S0 i := by
        funext a; refine propext ⟨fun y => y.1, fun y => ⟨y, ?_⟩⟩
        rw [e]; intro z; exact hp (Option.some.inj z)
      rw [this]; exact w0.on i A e, fun i j a x y => w0.dj i j a x.1 y.1⟩
  have q : ∀ i a, S i a → (F a ∨ B a = none) ∧ H a ≠ none ∧ Z a = none := fun i a y => q0 i a y.1
  refine ⟨fun a => ∃ j, j ∈ js ∧ S j a, ?_, fun N H' Z' r => ?_⟩
  · refine ⟨fun _ _ h _ => h, fun _ h => h, s.zh, Le.refl _, fun _ _ h => .inl h, fun a ⟨j, _, y⟩ => (q j a y).2.2, ft S js, w.pick js hj ej, fun i a ⟨k, ek, y⟩ => ⟨.inl ⟨k, List.mem_of_getElem? ek, y⟩, (q k a y).2⟩⟩
  · have ng : ∀ a u, B a = some u → ¬ F a → ¬ ∃ j, j ∈ js ∧ S j a := fun a u e hf ⟨j, _, y⟩ => by
      rcases (q j a y).1 with z | z
      · exact hf z
      · rw [e] at z; cases z
    have back : ∀ a, (∃ j, j ∈ js ∧ S j a) → F a ∨ B a = none := fun a ⟨j, _, y⟩ => (q j a y).1
    obtain ⟨SN, wN, qN⟩ := r.own
    have wR := w.pick rs hr er
    have rG : ∀ k a, S k a → k ∈ rs → ¬ ∃ j, j ∈ js ∧ S j a := fun k a y hk ⟨j, hj', y'⟩ => by
      have e := w.dj k j a y y'
      subst e
      exact y.2 (hd k hj' hk)
    have grow : ∀ k a u, S k a → k ∈ rs → H a = some u → H' a = some u := fun k a u y hk e => r.fr a u e (rG k a y hk)
    refine ⟨fun a u e hf => r.fr a u (s.fr a u e hf) (ng a u e hf), fun a e => s.al a (r.al a e), r.zh, s.yz.trans r.yz, fun a u e => ?_, s.yf, apd N.length SN (ft S rs), ⟨fun i A e => ?_, fun i j a x y => ?_⟩, fun i a y => ?_⟩
    · rcases r.zy a u e with h | h | h
      · exact s.zy a u h
      · exact .inr (back a h)
      · exact .inr (.inr (s.al a h))
    · unfold apd
      by_cases hi : i < N.length
      · rw [if_pos hi]
        rw [List.getElem?_append_left hi] at e
        exact wN.on i A e
      · rw [if_neg hi]
        rw [List.getElem?_append_right (by omega)] at e
        refine A.mono r.yz (fun a u y h => ?_) (wR.on _ A e)
        obtain ⟨k, ek, yk⟩ := y
        exact grow k a u yk (List.mem_of_getElem? ek) h
    · unfold apd at x y
      by_cases hi : i < N.length
      · rw [if_pos hi] at x
        by_cases hj2 : j < N.length
        · rw [if_pos hj2] at y; exact wN.dj i j a x y
        · rw [if_neg hj2] at y
          obtain ⟨k, ek, yk⟩ := y
          rcases (qN i a x).1 with z | z
          · exact (rG k a yk (List.mem_of_getElem? ek) z).elim
          · exact ((q k a yk).2.1 z).elim
      · rw [if_neg hi] at x
        by_cases hj2 : j < N.length
        · rw [if_pos hj2] at y
          obtain ⟨k, ek, yk⟩ := x
          rcases (qN j a y).1 with z | z
          · exact (rG k a yk (List.mem_of_getElem? ek) z).elim
          · exact ((q k a yk).2.1 z).elim
        · rw [if_neg hj2] at y
          have := wR.dj _ _ a x y
          omega
    · unfold apd at y
      by_cases hi : i < N.length
      · rw [if_pos hi] at y
        have := qN i a y
        refine ⟨?_, this.2⟩
        rcases this.1 with z | z
        · exact back a z
        · exact .inr (s.al a z)
      · rw [if_neg hi] at y
        obtain ⟨k, ek, yk⟩ := y
        have qk := q k a yk
        refine ⟨qk.1, ?_, ?_⟩
        · cases e : H a with
          | none => exact (qk.2.1 e).elim
          | some u => rw [grow k a u yk (List.mem_of_getElem? ek) e]; exact fun z => nomatch z
        · cases e : Z' a with
          | none => rfl
          | some u =>
            rcases r.zy a u e with h | h | h
            · rw [qk.2.2] at h; cases h
            · exact (rG k a yk (List.mem_of_getElem? ek) h).elim
            · exact (qk.2.1 h).elim
theorem Hs.start0 : Hs (fun _ => False) H (fun _ => none) [] H (fun _ => none) := by
  refine ⟨fun _ _ h _ => h, fun _ h => h, ?_, fun _ _ h => h, ?_, fun _ h => False.elim h, fun _ _ => False, ⟨?_, fun _ _ _ x => False.elim x⟩, fun _ _ x => False.elim x⟩
  · intro _ _ h; cases h
  · intro _ _ h; cases h
  · intro i A e; cases e
theorem Hs.start1 {a : Addr} {o : HO} (h : H a = some o) : Hs (fun _ => False) H (upd (fun _ => none) a o) [] H (upd (fun _ => none) a o) := by
  refine ⟨fun _ _ h _ => h, fun _ h => h, ?_, fun _ _ h => h, fun _ _ h => .inl h, fun _ h => False.elim h, fun _ _ => False, ⟨?_, fun _ _ _ x => False.elim x⟩, fun _ _ x => False.elim x⟩
  · intro b u e
    by_cases z : b = a
    · subst z; rw [upd_same] at e; rw [← e]; exact h
    · rw [upd_ne z] at e; cases e
  · intro i A e; cases e
/-- the script's list -/
theorem Hs.startS {a : Addr} (h : SqL K H a xs) : ∃ Y, Hs (fun _ => False) H Y [sq K a xs] H Y := by
  rcases h with (h | ⟨o, h⟩) | h
  · exact ⟨_, (Hs.start1 h).add _ (.inl (.inl upd_same))⟩
  · exact ⟨_, (Hs.start1 h).add _ (.inl (.inr ⟨o, upd_same⟩))⟩
  · exact ⟨_, Hs.start0.add _ (.inr h)⟩
end
end G

namespace G
open PySem PySem.Spec PyProof.Rows L2
theorem cm_l {i j : Int} (h1 : -18446744073709551616 < i) (h2 : i < 18446744073709551616) : CMul i j := .inl ⟨by omega, by omega⟩
theorem cm_r {i j : Int} (h1 : -18446744073709551616 < j) (h2 : j < 18446744073709551616) : CMul i j := .inr ⟨by omega, by omega⟩

/-! ### ints of a list by an index -/
def gi (ns : List Int) (i : Int) : Int := ns.getD i.toNat 0
theorem at_gi {ns : List Int} {i : Int} (h0 : 0 ≤ i) (h1 : i < (ns.length : Int)) : atI (ns.map V.int) i = some (V.int (gi ns i)) := by
  obtain ⟨n, rfl⟩ := Int.eq_ofNat_of_zero_le h0
  refine atI_nat ?_
  have hn : n < ns.length := by omega
  rw [List.getElem?_map, List.getElem?_eq_getElem hn]
  show some (V.int ns[n]) = some (V.int (ns.getD n 0))
  rw [List.getD_eq_getElem?_getD, List.getElem?_eq_getElem hn]; rfl
theorem gi_mem {ns : List Int} {i : Int} (h0 : 0 ≤ i) (h1 : i < (ns.length : Int)) : gi ns i ∈ ns := by
  obtain ⟨n, rfl⟩ := Int.eq_ofNat_of_zero_le h0
  have hn : n < ns.length := by omega
  show ns.getD n 0 ∈ ns
  rw [List.getD_eq_getElem?_getD, List.getElem?_eq_getElem hn]
  exact List.getElem_mem hn
/-! ### values and tests -/
def Val (te : TE) (σ : L2.St) (H : Hp) (v : V) : Prop := ∀ Q : VK, Q v H → te σ H Q
def VA (ta : TA) (σ : L2.St) (H : Hp) (vs : List V) : Prop := ∀ Q : List V → Hp → Prop, Q vs H → ta σ H Q
def Ans (t : TT) (σ : L2.St) (H : Hp) (p : Prop) [Decidable p] : Prop := ∀ Q : Bool → Hp → Prop, Q (decide p) H → t σ H Q
section
variable {K : PySem.W.Frag} {σ σ' : L2.St} {H : Hp} {ta tb te tc : TE} {t u : TT} {x y z v w : V} {r : R2} {i j : Int}
theorem vv (n : Nat) (h : σ[n]? = some (some v)) : Val (tVar n) σ H v := fun _ q => ⟨v, h, q⟩
theorem vc : Val (tC v) σ H v := fun _ q => q
theorem vis (h : Val te σ H v) (e : v = w) : Val te σ H w := e ▸ h
theorem v0 {g : Int → Int → V} (ha : Val ta σ H (.int i)) (hb : Val tb σ H (.int j)) : Val (tOp (rI0 g) ta tb) σ H (g i j) := fun Q q => ha _ (hb _ ⟨i, j, rfl, rfl, q⟩)
theorem v1 {C : Int → Int → Prop} {g : Int → Int → V} (hc : C i j) (ha : Val ta σ H (.int i)) (hb : Val tb σ H (.int j)) : Val (tOp (rI C g) ta tb) σ H (g i j) := fun Q q => ha _ (hb _ ⟨i, j, rfl, rfl, hc, q⟩)
theorem vun {g : Int → V} (ha : Val ta σ H (.int i)) : Val (tUn (rU g) ta) σ H (g i) := fun Q q => ha _ ⟨i, rfl, q⟩
abbrev rInt1 : List V → Hp → VK → Prop := fun xs H Q => (∃ i, xs = [.int i] ∧ Q (.int i) H) ∨ ∃ k, xs = [.bl k] ∧ Q (.int (if k then 1 else 0)) H
theorem vint (ha : Val ta σ H (.int i)) : Val (tCB rInt1 (tCons ta tNil)) σ H (.int i) := fun Q q => ha _ (.inl ⟨i, rfl, q⟩)
theorem vintb {b : Bool} (ha : Val ta σ H (.bl b)) : Val (tCB rInt1 (tCons ta tNil)) σ H (.int (if b then 1 else 0)) := fun Q q => ha _ (.inr ⟨b, rfl, q⟩)
theorem vixL {p : Addr} {xs : List V} (ha : Val ta σ H (.ref p)) (hb : Val tb σ H (.int i)) (hs : SqL K H p xs) (h : atI xs i = some v) : Val (tOp (rIxL K) ta tb) σ H v := fun Q q => ha _ (hb _ ⟨p, xs, i, v, rfl, rfl, hs, h, q⟩)
theorem vixT {p : Addr} {xs : List V} (ha : Val ta σ H (.ref p)) (hb : Val tb σ H (.int i)) (hs : SqT K H p xs) (h : atI xs i = some v) : Val (tOp (rIxT K) ta tb) σ H v := fun Q q => ha _ (hb _ ⟨p, xs, i, v, rfl, rfl, hs, h, q⟩)
abbrev rLenS (K : PySem.W.Frag) : List V → Hp → VK → Prop := fun xs H Q => ∃ p ys, xs = [.ref p] ∧ (SqL K H p ys ∨ SqT K H p ys) ∧ Q (.int ys.length) H
theorem vlenL {p : Addr} {xs : List V} (ha : Val ta σ H (.ref p)) (hs : SqL K H p xs) : Val (tCB (rLenS K) (tCons ta tNil)) σ H (.int xs.length) := fun Q q => ha _ ⟨p, xs, rfl, .inl hs, q⟩
theorem vlenT {p : Addr} {xs : List V} (ha : Val ta σ H (.ref p)) (hs : SqT K H p xs) : Val (tCB (rLenS K) (tCons ta tNil)) σ H (.int xs.length) := fun Q q => ha _ ⟨p, xs, rfl, .inr hs, q⟩
theorem vfld {a C dx : Addr} {fs : List (Str × V)} {f : Str} (h : Val ta σ H (.ref a)) (ho : H a = some (.ins C dx fs)) (hc : Cls K C) (hn : NoAttr K C f) (hl : fs.lookup f = some v) : Val (tFld K ta f) σ H v := fun Q q => h _ ⟨a, C, dx, fs, v, rfl, ho, hc, hn, hl, q⟩
theorem vif {p : Prop} [Decidable p] (h : Ans t σ H p) (h1 : p → Val ta σ H v) (h2 : ¬ p → Val tb σ H v) : Val (tIf t ta tb) σ H v := fun Q q => h _ (by
  by_cases hp : p
  · rw [decide_eq_true hp]; exact h1 hp Q q
  · rw [decide_eq_false hp]; exact h2 hp Q q)
theorem vtest {p : Prop} [Decidable p] (h : Val te σ H (.bl (decide p))) : Ans (tTest te) σ H p := fun Q q => h _ ⟨_, rfl, q⟩
theorem vB {p : Prop} [Decidable p] (h : Val te σ H (.bl (decide p))) : Ans (tB te) σ H p := fun Q q => h _ ⟨_, rfl, q⟩
theorem vbool {b : Bool} (h : Val te σ H (.bl b)) : Val te σ H (.bl (decide (b = true))) := by
  rw [show decide (b = true) = b from by cases b <;> rfl]; exact h
theorem dec_eq_V {α : Type} [DecidableEq α] (f : α → V) (hf : ∀ a b, f a = f b → a = b) (a b : α) : decide (f a = f b) = decide (a = b) := by
  by_cases h : a = b
  · rw [decide_eq_true h, decide_eq_true (congrArg f h)]
  · rw [decide_eq_false h, decide_eq_false (fun e => h (hf _ _ e))]
theorem dec_not (p : Prop) [Decidable p] : (!decide p) = decide (¬ p) := by
  by_cases h : p
  · rw [decide_eq_true h, decide_eq_false (not_not_intro h)]; rfl
  · rw [decide_eq_false h, decide_eq_true h]; rfl
theorem veq (ha : Val ta σ H (.int i)) (hb : Val tb σ H (.int j)) : Val (tOp rEq ta tb) σ H (.bl (decide (i = j))) := fun Q q => ha _ (hb _ ⟨rfl, by rw [dec_eq_V V.int (fun _ _ e => V.int.inj e)]; exact q⟩)
theorem vne (ha : Val ta σ H (.int i)) (hb : Val tb σ H (.int j)) : Val (tOp rNe ta tb) σ H (.bl (decide (i ≠ j))) := fun Q q => ha _ (hb _ ⟨rfl, by rw [dec_eq_V V.int (fun _ _ e => V.int.inj e), dec_not]; exact q⟩)
theorem veqb {a b : Bool} (ha : Val ta σ H (.bl a)) (hb : Val tb σ H (.bl b)) : Val (tOp rEq ta tb) σ H (.bl (decide (a = b))) := fun Q q => ha _ (hb _ ⟨rfl, by rw [dec_eq_V V.bl (fun _ _ e => V.bl.inj e)]; exact q⟩)
theorem vneb {a b : Bool} (ha : Val ta σ H (.bl a)) (hb : Val tb σ H (.bl b)) : Val (tOp rNe ta tb) σ H (.bl (decide (a ≠ b))) := fun Q q => ha _ (hb _ ⟨rfl, by rw [dec_eq_V V.bl (fun _ _ e => V.bl.inj e), dec_not]; exact q⟩)
theorem veqs {a b : Str} (ha : Val ta σ H (.str a)) (hb : Val tb σ H (.str b)) : Val (tOp rEq ta tb) σ H (.bl (decide (a = b))) := fun Q q => ha _ (hb _ ⟨rfl, by rw [dec_eq_V V.str (fun _ _ e => V.str.inj e)]; exact q⟩)
theorem vnes {a b : Str} (ha : Val ta σ H (.str a)) (hb : Val tb σ H (.str b)) : Val (tOp rNe ta tb) σ H (.bl (decide (a ≠ b))) := fun Q q => ha _ (hb _ ⟨rfl, by rw [dec_eq_V V.str (fun _ _ e => V.str.inj e), dec_not]; exact q⟩)
theorem veqv (hs : scal x y = true) (ha : Val ta σ H x) (hb : Val tb σ H y) : Val (tOp rEq ta tb) σ H (.bl (decide (x = y))) := fun Q q => ha _ (hb _ ⟨hs, q⟩)
theorem vnev (hs : scal x y = true) (ha : Val ta σ H x) (hb : Val tb σ H y) : Val (tOp rNe ta tb) σ H (.bl (decide (x ≠ y))) := fun Q q => ha _ (hb _ ⟨hs, by rw [dec_not]; exact q⟩)
abbrev rIsN : R2 := fun x y H Q => y = .non ∧ Q (.bl (decide (x = .non))) H
abbrev rNotN : R2 := fun x y H Q => y = .non ∧ Q (.bl (!decide (x = .non))) H
theorem visN (ha : Val ta σ H x) : Val (tOp rIsN ta (tC .non)) σ H (.bl (decide (x = .non))) := fun Q q => ha _ ⟨rfl, q⟩
theorem vnotN (ha : Val ta σ H x) : Val (tOp rNotN ta (tC .non)) σ H (.bl (decide (x ≠ .non))) := fun Q q => ha _ ⟨rfl, by rw [dec_not]; exact q⟩
theorem aand {p q : Prop} [Decidable p] [Decidable q] (h1 : Ans t σ H p) (h2 : p → Ans u σ H q) : Ans (tAnd t u) σ H (p ∧ q) := fun Q k => h1 _ (by
  by_cases hp : p
  · rw [decide_eq_true hp]
    refine h2 hp Q ?_
    rw [show decide q = decide (p ∧ q) from by simp [hp]]; exact k
  · rw [decide_eq_false hp]
    rw [show decide (p ∧ q) = false from by simp [hp]] at k; exact k)
theorem aor {p q : Prop} [Decidable p] [Decidable q] (h1 : Ans t σ H p) (h2 : ¬ p → Ans u σ H q) : Ans (tOr t u) σ H (p ∨ q) := fun Q k => h1 _ (by
  by_cases hp : p
  · rw [decide_eq_true hp]
    rw [show decide (p ∨ q) = true from by simp [hp]] at k; exact k
  · rw [decide_eq_false hp]
    refine h2 hp Q ?_
    rw [show decide q = decide (p ∨ q) from by simp [hp]]; exact k)
theorem anot {p : Prop} [Decidable p] (h : Ans t σ H p) : Ans (tNot t) σ H (¬ p) := fun Q k => h _ (by rw [dec_not]; exact k)
theorem ais {p q : Prop} [Decidable p] [Decidable q] (h : Ans t σ H p) (e : p ↔ q) : Ans t σ H q := fun Q k => h Q (by rw [show decide p = decide q from by simp [e]]; exact k)
theorem vchain {p q : Prop} [Decidable p] [Decidable q] {r' : R2} (ha : Val ta σ H x) (hb : Val tb σ H y) (hc : Val tc σ H z) (h1 : ∀ Q : VK, Q (.bl (decide p)) H → r x y H Q) (h2 : ∀ Q : VK, Q (.bl (decide q)) H → r' y z H Q) :
    Val (tChain r r' ta tb tc) σ H (.bl (decide (p ∧ q))) := fun Q k => ha _ (hb _ (h1 _ ⟨_, rfl, by
  by_cases hp : p
  · rw [decide_eq_true hp]
    refine hc _ (h2 Q ?_)
    rw [show decide q = decide (p ∧ q) from by simp [hp]]; exact k
  · rw [decide_eq_false hp]
    rw [show decide (p ∧ q) = false from by simp [hp]] at k; exact k⟩))
theorem r0 {g : Int → Int → V} : ∀ Q : VK, Q (g i j) H → rI0 g (.int i) (.int j) H Q := fun _ q => ⟨i, j, rfl, rfl, q⟩
theorem va0 : VA tNil σ H [] := fun _ q => q
theorem va {tr : TA} {vs : List V} (h : Val ta σ H x) (hr : VA tr σ H vs) : VA (tCons ta tr) σ H (x :: vs) := fun _ q => h _ (hr _ q)
theorem vcall {sp : Sp} {dvs vs : List V} {E : XK} {tr : TA} (ha : VA tr σ H vs) (k : ∀ Q : VK, Q v H → sp (vs ++ dvs) H Q E) : Val (tCall sp dvs E tr) σ H v := fun Q q => ha _ (k Q q)
theorem c_call {sp : Sp} {dvs vs : List V} {E : XK} {tr : TA} {Q : VK} (ha : VA tr σ H vs) (k : sp (vs ++ dvs) H Q E) : tCall sp dvs E tr σ H Q := ha _ k
abbrev rIsiK (K : PySem.W.Frag) := rIsi K
theorem visi {c : V} {cu tu : Value} {b : Bool} (ha : Val ta σ H x) (hb : Val tb σ H c) (hc : ClsV c cu) (hx : TyX K H x tu) (hk : PySem.W.kitOne K tu cu = some b) : Val (tCB (rIsi K) (tCons ta (tCons tb tNil))) σ H (.bl b) := fun Q q => ha _ (hb _ ⟨x, c, tu, cu, b, rfl, hc, hx, hk, q⟩)
/-! ### statements -/
variable {D : Ends} {tz tu tw : TS}
theorem s_set {n : Nat} (σ' : L2.St) (h : Val te σ H v) (e : σ.set n (some v) = σ') (k : tz D σ' H) : tSeq (tAsg te (gName n)) tz D σ H := h _ (by
  show tz D (σ.set n (some v)) H
  rw [e]; exact k)
def kSet (tz : TS) (D : Ends) (σ : L2.St) (n : Nat) : VK := fun v H1 => tz D (σ.set n (some v)) H1
def kDrop (tz : TS) (D : Ends) (σ : L2.St) : VK := fun _ H1 => tz D σ H1
theorem c_set {n : Nat} (k : te σ H (kSet tz D σ n)) : tSeq (tAsg te (gName n)) tz D σ H := k
theorem k_set {n : Nat} (σ' : L2.St) (e : σ.set n (some v) = σ') (k : tz D σ' H) : kSet tz D σ n v H := by
  show tz D (σ.set n (some v)) H
  rw [e]; exact k
theorem k_setv {n : Nat} (w : V) (e : v = w) (k : kSet tz D σ n w H) : kSet tz D σ n v H := e ▸ k
theorem k_drop (k : tz D σ H) : kDrop tz D σ v H := k
theorem c_setv {n : Nat} (w : V) (e : v = w) (k : tz D (σ.set n (some w)) H) : tz D (σ.set n (some v)) H := e ▸ k
theorem c_sig (σ' : L2.St) (e : σ = σ') (k : tz D σ' H) : tz D σ H := e ▸ k
theorem c_op {r : R2} {Q : VK} (k : ta σ H fun x H1 => tb σ H1 fun y H2 => r x y H2 Q) : tOp r ta tb σ H Q := k
theorem s_ret (h : Val te σ H v) (k : D.rt v H) : tSeq (tRet te) tz D σ H := h _ k
theorem c_ret (k : te σ H D.rt) : tSeq (tRet te) tz D σ H := k
theorem s_drop (h : Val te σ H v) (k : tz D σ H) : tSeq (tDrop te) tz D σ H := h _ k
theorem c_drop (k : te σ H (kDrop tz D σ)) : tSeq (tDrop te) tz D σ H := k
theorem s_nx (k : D.nx σ H) : tNext D σ H := k
theorem s_nxu {N C Z : L2.St → Hp → Prop} (k : N σ H) : tNext { D with nx := N, ct := C, bk := Z } σ H := k
theorem s_nxs (k : tz D σ H) : tNext { D with nx := tz D } σ H := k
theorem s_if {p : Prop} [Decidable p] (h : Ans t σ H p) (h1 : p → tu { D with nx := tz D } σ H) (h2 : ¬ p → tw { D with nx := tz D } σ H) : tSeq (tIfS t tu tw) tz D σ H := h _ (by
  by_cases hp : p
  · rw [decide_eq_true hp]; exact h1 hp
  · rw [decide_eq_false hp]; exact h2 hp)
theorem s_ifM {p : Prop} [Decidable p] (M : L2.St → Hp → Prop) (h : Ans t σ H p) (h1 : p → tu { D with nx := M } σ H) (h2 : ¬ p → tw { D with nx := M } σ H) (hM : ∀ s G, M s G → tz D s G)
    (mono : ∀ (N : L2.St → Hp → Prop), (∀ s G, M s G → N s G) → (tu { D with nx := M } σ H → tu { D with nx := N } σ H) ∧ (tw { D with nx := M } σ H → tw { D with nx := N } σ H)) : tSeq (tIfS t tu tw) tz D σ H := h _ (by
  by_cases hp : p
  · rw [decide_eq_true hp]; exact (mono _ hM).1 (h1 hp)
  · rw [decide_eq_false hp]; exact (mono _ hM).2 (h2 hp))
/-- if c: x = e (no else): the value behind it -/
theorem s_ifset {p : Prop} [Decidable p] {n : Nat} (σ' : L2.St) (v : V) (h : Ans t σ H p) (h1 : p → Val te σ H v) (e : σ.set n (some v) = σ') (h2 : ¬ p → σ = σ') (k : tz D σ' H) : tSeq (tIfS t (tSeq (tAsg te (gName n)) tNext) tNext) tz D σ H :=
  s_if h (fun hp => s_set σ' (h1 hp) e k) (fun hp => by rw [h2 hp]; exact k)
theorem s_aug {n : Nat} (σ' : L2.St) {g : Int → Int → Int} (hx : σ[n]? = some (some (.int i))) (h : Val te σ H (.int j)) (e : σ.set n (some (.int (g i j))) = σ') (k : tz D σ' H) : tSeq (tAug n te (ipI g)) tz D σ H :=
  ⟨.int i, hx, h _ ⟨i, j, rfl, rfl, by
    show tz D (σ.set n (some (.int (g i j)))) H
    rw [e]; exact k⟩⟩
theorem s_forL {a : Addr} {xs : List V} {n : Nat} (h : Val te σ H (.ref a)) (hx : SqL K H a xs) (Pv : Nat → L2.St → Hp → Prop) (h0 : Pv 0 σ H) (hl : ∀ i σ' H', i ≤ xs.length → Pv i σ' H' → SqL K H' a xs)
    (hs : ∀ i x σ' H', xs[i]? = some x → Pv i σ' H' → tu { D with nx := Pv (i + 1), ct := Pv (i + 1), bk := tz D } (σ'.set n (some x)) H') (hd : ∀ σ' H', Pv xs.length σ' H' → tz D σ' H') : tSeq (tFor (iList K te) (gName n) tu) tz D σ H :=
  h _ ⟨a, rfl, ⟨xs, hx⟩, for_list Pv h0 hl hs hd⟩
theorem s_forT {a : Addr} {xs : List V} {n : Nat} (h : Val te σ H (.ref a)) (hx : SqT K H a xs) (Pv : Nat → L2.St → Hp → Prop) (h0 : Pv 0 σ H) (hl : ∀ i σ' H', i ≤ xs.length → Pv i σ' H' → SqT K H' a xs)
    (hs : ∀ i x σ' H', xs[i]? = some x → Pv i σ' H' → tu { D with nx := Pv (i + 1), ct := Pv (i + 1), bk := tz D } (σ'.set n (some x)) H') (hd : ∀ σ' H', Pv xs.length σ' H' → tz D σ' H') : tSeq (tFor (iTup K te) (gName n) tu) tz D σ H :=
  h _ ⟨a, rfl, ⟨xs, hx⟩, for_tup Pv h0 hl hs hd⟩
theorem s_forR1 {tr : TA} {n : Nat} {m : Int} (h : VA tr σ H [.int m]) (hm : -(2 ^ 62) ≤ m ∧ m < 2 ^ 62) (Pv : Nat → L2.St → Hp → Prop) (h0 : Pv 0 σ H)
    (hs : ∀ (i : Nat) σ' H', (i : Int) < m → Pv i σ' H' → tu { D with nx := Pv (i + 1), ct := Pv (i + 1), bk := tz D } (σ'.set n (some (.int (i : Int)))) H') (hd : ∀ σ' H', Pv m.toNat σ' H' → tz D σ' H') : tSeq (tFor (iRng1 tr) (gName n) tu) tz D σ H :=
  h _ ⟨m, rfl, hm.1, hm.2, for_range (lo := 0) (n := m.toNat) Pv h0 (fun i σ' H' hi p => by
    show tu { D with nx := Pv (i + 1), ct := Pv (i + 1), bk := tz D } (σ'.set n (some (.int ((0 : Int) + (i : Int))))) H'
    rw [Int.zero_add]
    exact hs i σ' H' (by omega) p) hd⟩
theorem s_forR2 {tr : TA} {n : Nat} {lo m : Int} (h : VA tr σ H [.int lo, .int m]) (hm : -(2 ^ 62) ≤ lo ∧ lo < 2 ^ 62 ∧ -(2 ^ 62) ≤ m ∧ m < 2 ^ 62) (Pv : Nat → L2.St → Hp → Prop) (h0 : Pv 0 σ H)
    (hs : ∀ (i : Nat) σ' H', lo + (i : Int) < m → Pv i σ' H' → tu { D with nx := Pv (i + 1), ct := Pv (i + 1), bk := tz D } (σ'.set n (some (.int (lo + (i : Int))))) H') (hd : ∀ σ' H', Pv (m - lo).toNat σ' H' → tz D σ' H') : tSeq (tFor (iRng2 tr) (gName n) tu) tz D σ H :=
  h _ ⟨lo, m, rfl, hm, for_range (lo := lo) (n := (m - lo).toNat) Pv h0 (fun i σ' H' hi p => hs i σ' H' (by omega) p) hd⟩
end
/-- a promise's two ends -/
def sz1 {n : Nat} (h : n ≤ 1000000) : n ≤ sizeLine := Nat.le_trans h (by decide)
def sz2 {n : Nat} (h : n < 1000000) : n < sizeLine := Nat.lt_of_lt_of_le h (by decide)
section
variable {K : PySem.W.Frag} {σ σ' : L2.St} {H : Hp} {ta tb te tc : TE} {D : Ends} {tz : TS} {v : V}
theorem c_callx {sp : Sp} {dvs : List V} {E : XK} {t : TA} {Q : VK} (k : t σ H fun vs H1 => sp (vs ++ dvs) H1 Q E) : tCall sp dvs E t σ H Q := k
theorem c_cons {tr : TA} {Q : List V → Hp → Prop} (k : ta σ H fun x H1 => tr σ H1 fun xs H2 => Q (x :: xs) H2) : tCons ta tr σ H Q := k
theorem c_nil {Q : List V → Hp → Prop} (k : Q [] H) : tNil σ H Q := k
theorem c_lst {t : TA} {Q : VK} (k : t σ H fun xs H1 => xs.length ≤ sizeLine ∧ ∀ p, H1 p = none → Q (.ref p) (upd H1 p (.lst xs))) : tLst t σ H Q := k
theorem c_tup {t : TA} {Q : VK} (k : t σ H fun xs H1 => xs.length ≤ sizeLine ∧ ∀ p, H1 p = none → Q (.ref p) (upd H1 p (.tup xs))) : tTup t σ H Q := k
theorem c_cb {r : List V → Hp → VK → Prop} {t : TA} {Q : VK} (k : t σ H fun vs H1 => r vs H1 Q) : tCB r t σ H Q := k
theorem c_asg {g : TG} (k : te σ H fun v H1 => g v σ H1 (tz D)) : tSeq (tAsg te g) tz D σ H := k
theorem c_test {Q : Bool → Hp → Prop} (k : te σ H fun x H' => ∃ b, x = .bl b ∧ Q b H') : tTest te σ H Q := k
theorem s_appI {l : Addr} {xs : List Int} {n : Int} (hl : H l = some (.lst (xs.map V.int))) (ha : Val ta σ H (.ref l)) (h : Val te σ H (.int n)) (hz : xs.length < 1000000) (k : tz D σ (upd H l (.lst ((xs ++ [n]).map V.int)))) :
    tSeq (tDrop (tBM K "list" rAppend ta (tCons te tNil))) tz D σ H := ha _ ⟨Or.inl ⟨rfl, xs.map V.int, SqL.of hl⟩, h _ ⟨l, xs.map V.int, .int n, rfl, rfl, hl, by rw [List.length_map]; exact sz2 hz, by
      show tz D σ (upd H l (.lst (xs.map V.int ++ [V.int n])))
      rw [List.map_append] at k; exact k⟩⟩
theorem s_app {l : Addr} {xs : List V} (hl : H l = some (.lst xs)) (ha : Val ta σ H (.ref l)) (h : Val te σ H v) (hz : xs.length < 1000000) (k : tz D σ (upd H l (.lst (xs ++ [v])))) :
    tSeq (tDrop (tBM K "list" rAppend ta (tCons te tNil))) tz D σ H := ha _ ⟨Or.inl ⟨rfl, xs, SqL.of hl⟩, h _ ⟨l, xs, v, rfl, rfl, hl, sz2 hz, k⟩⟩
theorem ix_nat {n : Nat} {i : Int} (h0 : 0 ≤ i) (h1 : i < (n : Int)) : ixN n i = some i.toNat := by
  unfold ixN
  rw [if_pos h0, if_pos h1]
theorem map_seti (xs : List Int) (j : Nat) (n : Int) : (xs.map V.int).set j (.int n) = (xs.set j n).map V.int := by rw [List.map_set]
theorem s_setI {l : Addr} {xs : List Int} {i n : Int} (hl : H l = some (.lst (xs.map V.int))) (h : Val te σ H (.int n)) (ha : Val ta σ H (.ref l)) (hb : Val tb σ H (.int i)) (h0 : 0 ≤ i) (h1 : i < (xs.length : Int)) (k : tz D σ (upd H l (.lst ((xs.set i.toNat n).map V.int)))) :
    tSeq (tAsg te (gSub ta tb rSetL)) tz D σ H := h _ (ha _ (hb _ ⟨l, xs.map V.int, i, i.toNat, rfl, rfl, hl, ix_nat h0 (by rw [List.length_map]; exact h1), by
      rw [map_seti]; exact k⟩))
theorem s_setL {l : Addr} {xs : List V} {i : Int} (hl : H l = some (.lst xs)) (h : Val te σ H v) (ha : Val ta σ H (.ref l)) (hb : Val tb σ H (.int i)) (h0 : 0 ≤ i) (h1 : i < (xs.length : Int)) (k : tz D σ (upd H l (.lst (xs.set i.toNat v)))) :
    tSeq (tAsg te (gSub ta tb rSetL)) tz D σ H := h _ (ha _ (hb _ ⟨l, xs, i, i.toNat, rfl, rfl, hl, ix_nat h0 h1, k⟩))
end
section
variable {K : PySem.W.Frag} {σ σ' : L2.St} {H : Hp} {ta tb te tc : TE} {t u : TT} {D : Ends} {tz tu tw : TS} {v w : V} {p q : Prop} [Decidable p] [Decidable q]
theorem fin {Q : VK} (k : Q v H) (e : w = v) : Q w H := e ▸ k
theorem map_int_get {xs : List Int} {i : Nat} {x : V} (h : (xs.map V.int)[i]? = some x) : ∃ n, x = V.int n ∧ xs[i]? = some n := by
  rw [List.getElem?_map] at h
  cases e : xs[i]? with
  | none => rw [e] at h; cases h
  | some n => rw [e] at h; exact ⟨n, (Option.some.inj h).symm, rfl⟩
theorem c_ifS (k : t σ H fun b H1 => if b = true then tu { D with nx := tz D } σ H1 else tw { D with nx := tz D } σ H1) : tSeq (tIfS t tu tw) tz D σ H := k
theorem c_ite {A B : Prop} (h1 : p → A) (h2 : ¬ p → B) : if decide p = true then A else B := by
  by_cases hp : p
  · rw [decide_eq_true hp]; exact h1 hp
  · rw [decide_eq_false hp]; exact h2 hp
theorem c_iteB {b : Bool} {A B : Prop} (h1 : b = true → A) (h2 : ¬ b = true → B) : if b = true then A else B := ite2 h1 h2
theorem c_make {C : Addr} {sp : Sp} {dvs : List V} {E : XK} {tr : TA} {Q : VK} (k : tr σ H fun vs H1 => ∀ x dx, H1 x = none → H1 dx = none → dx ≠ x →
  sp (.ref x :: (vs ++ dvs)) (upd (upd H1 dx (.own x)) x (.ins C dx [])) (fun v H2 => v = .non ∧ Q (.ref x) H2) E) : tMake C sp dvs E tr σ H Q := k
theorem upd_none {x dx : Addr} {o : HO} (h : H x = none) (ne : dx ≠ x) : upd H dx o x = none := by rw [upd_ne (Ne.symm ne)]; exact h
theorem s_fld {a C dx : Addr} {f : Str} {fs : List (Str × V)} (fs' : List (Str × V)) (hv : Val tb σ H v) (ha : Val ta σ H (.ref a)) (ho : H a = some (.ins C dx fs)) (hc : Cls K C) (hn : NoAttr K C f) (hl : fs.length < 1000) (e : putF f v fs = fs')
    (k : tz D σ (upd H a (.ins C dx fs'))) : tSeq (sFld K ta tb f) tz D σ H := hv _ (ha _ ⟨a, C, dx, fs, rfl, ho, hc, hn, hl, by
      show tz D σ (upd H a (.ins C dx (putF f v fs)))
      rw [e]; exact k⟩)
theorem rep_one (n : Nat) (v : V) : (List.replicate n [v]).flatten = List.replicate n v := by
  induction n with
  | zero => rfl
  | succ n ih => rw [List.replicate_succ, List.flatten_cons, ih]; rfl
theorem dp_ints : ∀ ns : List Int, DpAll K H (ns.map V.int) (ns.map PyData.int)
  | [] => .nil
  | n :: r => .cons (.int n) (dp_ints r)
theorem lay_ints : ∀ ns : List Int, PyData.canLayAll0 (ns.map PyData.int) = true
  | [] => rfl
  | _ :: r => lay_ints r
theorem dep_ints : ∀ ns : List Int, PyData.depthAll (ns.map PyData.int) ≤ 1
  | [] => by decide
  | _ :: r => by
    have := dep_ints r
    show max _ (PyData.depthAll (r.map PyData.int)) ≤ 1
    exact Nat.max_le.mpr ⟨Nat.zero_le _, this⟩
theorem dep_ints0 : ∀ ns : List Int, PyData.depthAll (ns.map PyData.int) = 0
  | [] => rfl
  | _ :: r => by
    show max 0 (PyData.depthAll (r.map PyData.int)) = 0
    rw [dep_ints0 r]; rfl
theorem shp_ints (ns : List Int) : SeqAt.shaped (.list (ns.map PyData.int)) = true := by
  unfold SeqAt.shaped
  refine Bool.and_eq_true_iff.mpr ⟨lay_ints ns, decide_eq_true ?_⟩
  have := dep_ints ns
  show _ ≤ 64
  simp only [PyData.depth]
  omega
theorem vand (ha : Val ta σ H (.bl (decide p))) (hb : p → Val tb σ H (.bl (decide q))) : Val (tAndV ta tb) σ H (.bl (decide (p ∧ q))) := fun Q k => ha _ ⟨_, rfl, by
  by_cases hp : p
  · rw [decide_eq_true hp]
    refine hb hp Q ?_
    rw [show decide q = decide (p ∧ q) from by simp [hp]]; exact k
  · rw [decide_eq_false hp]
    rw [show decide (p ∧ q) = false from by simp [hp]] at k; exact k⟩
theorem vor (ha : Val ta σ H (.bl (decide p))) (hb : ¬ p → Val tb σ H (.bl (decide q))) : Val (tOrV ta tb) σ H (.bl (decide (p ∨ q))) := fun Q k => ha _ ⟨_, rfl, by
  by_cases hp : p
  · rw [decide_eq_true hp]
    rw [show decide (p ∨ q) = true from by simp [hp]] at k; exact k
  · rw [decide_eq_false hp]
    refine hb hp Q ?_
    rw [show decide q = decide (p ∨ q) from by simp [hp]]; exact k⟩
theorem vnot (ha : Val ta σ H (.bl (decide p))) : Val (tNotV ta) σ H (.bl (decide (¬ p))) := fun Q k => ha _ ⟨_, rfl, by rw [dec_not]; exact k⟩
/-! loops turn by turn -/
def Unr (tu : TS) (D : Ends) (tz : TS) (j : Nat) : Nat → Nat → L2.St → Hp → Prop
  | 0, _, σ, H => tz D σ H
  | m + 1, i, σ, H => tu { D with nx := Unr tu D tz j m (i + 1), ct := Unr tu D tz j m (i + 1), bk := tz D } (σ.set j (some (.int (i : Int)))) H
theorem s_unrR1 {tr : TA} {n m : Nat} (h : VA tr σ H [.int (m : Int)]) (hm : m < 1000) (k : Unr tu D tz n m 0 σ H) : tSeq (tFor (iRng1 tr) (gName n) tu) tz D σ H :=
  s_forR1 h ⟨by omega, by omega⟩ (fun i σ H => Unr tu D tz n (m - i) i σ H) (by exact k) (fun i σ' H' hi p => by
    have e : m - i = (m - (i + 1)) + 1 := by omega
    rw [e] at p
    exact p) (fun σ' H' p => by
    rw [show m - (m : Int).toNat = 0 by omega] at p
    exact p)
theorem u_done {j i : Nat} (k : tz D σ H) : Unr tu D tz j 0 i σ H := k
theorem u_next {j m i : Nat} (k : tu { D with nx := Unr tu D tz j m (i + 1), ct := Unr tu D tz j m (i + 1), bk := tz D } (σ.set j (some (.int (i : Int)))) H) : Unr tu D tz j (m + 1) i σ H := k
theorem visb {a b : Bool} (ha : Val ta σ H (.bl a)) (hb : Val tb σ H (.bl b)) : Val (tOp rIsB ta tb) σ H (.bl (decide (a = b))) := fun Q q => ha _ (hb _ ⟨a, b, rfl, rfl, q⟩)
theorem vnotb {a b : Bool} (ha : Val ta σ H (.bl a)) (hb : Val tb σ H (.bl b)) : Val (tOp rNotB ta tb) σ H (.bl (decide (a ≠ b))) := fun Q q => ha _ (hb _ ⟨a, b, rfl, rfl, by rw [dec_not]; exact q⟩)
theorem range_map_snoc (f : Nat → Int) (i : Nat) : (((List.range (i + 1)).map f).map V.int) = (((List.range i).map f).map V.int) ++ [V.int (f i)] := by
  rw [List.range_succ, List.map_append, List.map_append]; rfl
theorem c_yes {A B : Prop} (hp : p) (k : A) : if decide p = true then A else B := by rw [decide_eq_true hp]; exact k
theorem c_no {A B : Prop} (hp : ¬ p) (k : B) : if decide p = true then A else B := by rw [decide_eq_false hp]; exact k
theorem ty_l {a : Addr} {xs : List V} (h : SqL K H a xs) : tyV K "list" (.ref a) H := .inl ⟨rfl, xs, h⟩
abbrev rMin2 : List V → Hp → VK → Prop := fun xs H Q => ∃ i j, xs = [.int i, .int j] ∧ Q (.int (if j < i then j else i)) H
abbrev rMax2 : List V → Hp → VK → Prop := fun xs H Q => ∃ i j, xs = [.int i, .int j] ∧ Q (.int (if j > i then j else i)) H
theorem vmin2 {i j : Int} (ha : Val ta σ H (.int i)) (hb : Val tb σ H (.int j)) : Val (tCB rMin2 (tCons ta (tCons tb tNil))) σ H (.int (if j < i then j else i)) := fun Q q => ha _ (hb _ ⟨i, j, rfl, q⟩)
theorem vmax2 {i j : Int} (ha : Val ta σ H (.int i)) (hb : Val tb σ H (.int j)) : Val (tCB rMax2 (tCons ta (tCons tb tNil))) σ H (.int (if j > i then j else i)) := fun Q q => ha _ (hb _ ⟨i, j, rfl, q⟩)
theorem pe_nev {X : Cx} {e : Expr} : PE X e (fun _ _ _ => False) := ⟨fun _ _ _ _ _ _ h => h.elim⟩
theorem pt_nev {X : Cx} {e : Expr} : PT X e (fun _ _ _ => False) := ⟨fun _ _ _ _ _ _ h => h.elim⟩
theorem kQb {b : Bool} {P : Hp → Prop} (Q : VK) (k : ∀ H', P H' → Q (.bl (decide (b = true))) H') : ∀ H', P H' → Q (.bl b) H' := fun H' h => by
  have := k H' h
  rwa [show decide (b = true) = b from by cases b <;> rfl] at this
theorem c_iten {A B : Prop} (h2 : ¬ p → A) (h1 : p → B) : if (!decide p) = true then A else B := by
  by_cases hp : p
  · rw [decide_eq_true hp]; exact h1 hp
  · rw [decide_eq_false hp]; exact h2 hp
theorem c_iteBn {b : Bool} {A B : Prop} (h2 : ¬ b = true → A) (h1 : b = true → B) : if (!b) = true then A else B := by
  cases b with
  | true => exact h1 rfl
  | false => exact h2 Bool.false_ne_true
theorem c_or {Q : Bool → Hp → Prop} (k : t σ H fun c H1 => if c = true then Q true H1 else u σ H1 Q) : tOr t u σ H Q := k
theorem c_and {Q : Bool → Hp → Prop} (k : t σ H fun c H1 => if c = true then u σ H1 Q else Q false H1) : tAnd t u σ H Q := k
theorem c_not {Q : Bool → Hp → Prop} (k : t σ H fun c H1 => Q (!c) H1) : tNot t σ H Q := k
theorem c_tB {Q : Bool → Hp → Prop} (k : te σ H fun x H' => ∃ b, x = .bl b ∧ Q b H') : tB te σ H Q := k
theorem flat_ints (ns : List Int) : (ns.map V.int).all flatV = true := by
  induction ns with
  | nil => rfl
  | cons n r ih => exact ih
theorem inV_ints (a : Int) (ns : List Int) : inV (V.int a) (ns.map V.int) = decide (a ∈ ns) := by
  induction ns with
  | nil => rfl
  | cons n r ih =>
    have e : inV (V.int a) ((n :: r).map V.int) = (n == a || inV (V.int a) (r.map V.int)) := rfl
    rw [e, ih]
    by_cases h : n = a
    · subst h; simp
    · have h2 : ¬ a = n := fun z => h z.symm
      simp [h, h2]
theorem r_in {a : Int} {ns : List Int} {p : Addr} {Q : VK} (h : SqL K H p (ns.map V.int) ∨ SqT K H p (ns.map V.int)) (k : Q (.bl (decide (a ∈ ns))) H) : rIn K false (.int a) (.ref p) H Q :=
  ⟨p, ns.map V.int, rfl, h, rfl, flat_ints _, by
    show Q (.bl (inV (V.int a) (ns.map V.int))) H
    rw [inV_ints]; exact k⟩
theorem r_notin {a : Int} {ns : List Int} {p : Addr} {Q : VK} (h : SqL K H p (ns.map V.int) ∨ SqT K H p (ns.map V.int)) (k : Q (.bl (decide (¬ (a ∈ ns)))) H) : rIn K true (.int a) (.ref p) H Q :=
  ⟨p, ns.map V.int, rfl, h, rfl, flat_ints _, by
    show Q (.bl (!inV (V.int a) (ns.map V.int))) H
    rw [inV_ints, dec_not]; exact k⟩
theorem inI_t {a : Int} {ns : List Int} (h : (if false = true then !inV (V.int a) (ns.map V.int) else inV (V.int a) (ns.map V.int)) = true) : a ∈ ns := by
  have h' : inV (V.int a) (ns.map V.int) = true := h
  rw [inV_ints] at h'; exact of_decide_eq_true h'
theorem inI_f {a : Int} {ns : List Int} (h : ¬ (if false = true then !inV (V.int a) (ns.map V.int) else inV (V.int a) (ns.map V.int)) = true) : ¬ a ∈ ns := fun z => h (by
  show inV (V.int a) (ns.map V.int) = true
  rw [inV_ints]; exact decide_eq_true z)
theorem niI_t {a : Int} {ns : List Int} (h : (if true = true then !inV (V.int a) (ns.map V.int) else inV (V.int a) (ns.map V.int)) = true) : ¬ a ∈ ns := fun z => by
  have h' : (!inV (V.int a) (ns.map V.int)) = true := h
  rw [inV_ints, decide_eq_true z] at h'; cases h'
theorem niI_f {a : Int} {ns : List Int} (h : ¬ (if true = true then !inV (V.int a) (ns.map V.int) else inV (V.int a) (ns.map V.int)) = true) : a ∈ ns := by
  refine Decidable.byContradiction fun z => h ?_
  show (!inV (V.int a) (ns.map V.int)) = true
  rw [inV_ints, decide_eq_false z]; rfl
end
end G
local macro_rules | `(tactic| walk_at "side") => `(tactic| first | omega | assumption | decide | exact Int.emod_nonneg _ (by omega) | exact Int.emod_lt_of_pos _ (by omega) | (simp only [List.length_map, List.length_append, List.length_cons, List.length_nil, List.length_replicate, List.length_set, G.gi] <;> omega) | (simp <;> omega) | walk_at "side2")
local macro_rules | `(tactic| walk_at "cmul") => `(tactic| first | decide | (constructor <;> omega))
local macro_rules | `(tactic| walk_at "cmul2") => `(tactic| first | exact G.cm_l (by omega) (by omega) | exact G.cm_r (by omega) (by omega))
local macro_rules | `(tactic| walk_at "dead") => `(tactic| first | omega | contradiction | (simp_all; done) | (simp_all; omega))
local macro_rules | `(tactic| walk_at "finL") => `(tactic| first | rfl | (subst_vars; rfl) | (simp; done))
local macro_rules | `(tactic| walk_at "inv") => `(tactic| first | assumption | rfl | omega | (simp; done) | (simp_all; done))
local macro_rules | `(tactic| walk_at "fin") => `(tactic| first | rfl | (simp_all; done))
local macro_rules | `(tactic| walk_at "shp") => `(tactic| first | rfl | decide | (unfold PySem.SeqAt.shaped; simp [PySem.PyData.canLay0, PySem.PyData.canLayAll0, PySem.PyData.depth, PySem.PyData.depthAll, G.lay_ints, G.dep_ints0]; done) | exact G.shp_ints _)
local macro_rules | `(tactic| walk_at "known") => `(tactic| first | decide | (simp; done) | omega | (simp_all; done))

/-! ### texts by their codes -/
namespace G
open PySem PySem.Spec PyProof.Rows L2
def sO (xs : List Nat) : Str := ⟨xs.toArray⟩
theorem sO_cps (xs : List Nat) : (sO xs).cps.toList = xs := rfl
theorem sO_len (xs : List Nat) : (sO xs).length = xs.length := by simp [sO, Str.length]
theorem sO_app (xs ys : List Nat) : sO xs ++ sO ys = sO (xs ++ ys) := by
  show Str.append (sO xs) (sO ys) = sO (xs ++ ys)
  simp [sO, Str.append]
theorem sO_inj {xs ys : List Nat} (h : sO xs = sO ys) : xs = ys := by
  have := congrArg (fun s : Str => s.cps.toList) h
  exact this
theorem sO_of (s : Str) : s = sO s.cps.toList := by
  cases s with
  | mk c => simp [sO]
def gn (xs : List Nat) (i : Int) : Nat := xs.getD i.toNat 0
theorem at_gn {xs : List Nat} {i : Int} (h0 : 0 ≤ i) (h1 : i < (xs.length : Int)) : atI xs i = some (gn xs i) := by
  obtain ⟨n, rfl⟩ := Int.eq_ofNat_of_zero_le h0
  refine atI_nat ?_
  have hn : n < xs.length := by omega
  rw [List.getElem?_eq_getElem hn]
  show some xs[n] = some (xs.getD n 0)
  rw [List.getD_eq_getElem?_getD, List.getElem?_eq_getElem hn]; rfl
theorem gn_mem {xs : List Nat} {i : Int} (h0 : 0 ≤ i) (h1 : i < (xs.length : Int)) : gn xs i ∈ xs := by
  obtain ⟨n, rfl⟩ := Int.eq_ofNat_of_zero_le h0
  have hn : n < xs.length := by omega
  show xs.getD n 0 ∈ xs
  rw [List.getD_eq_getElem?_getD, List.getElem?_eq_getElem hn]
  exact List.getElem_mem hn
section
variable {K : PySem.W.Frag} {σ σ' : L2.St} {H : Hp} {ta tb te : TE} {tz tu : TS} {D : Ends}
abbrev rAddS : R2 := fun x y H Q => ∃ i j, x = .str i ∧ y = .str j ∧ i.length + j.length ≤ sizeLine ∧ Q (.str (i ++ j)) H
theorem vcat {a b : List Nat} (h : a.length + b.length ≤ 1000000) (ha : Val ta σ H (.str (sO a))) (hb : Val tb σ H (.str (sO b))) : Val (tOp rAddS ta tb) σ H (.str (sO (a ++ b))) := fun Q q =>
  ha _ (hb _ ⟨sO a, sO b, rfl, rfl, by rw [sO_len, sO_len]; exact sz1 h, by rw [sO_app]; exact q⟩)
theorem r_cat {a b : List Nat} {Q : VK} (h : a.length + b.length ≤ 1000000) (k : Q (.str (sO (a ++ b))) H) : rAddS (.str (sO a)) (.str (sO b)) H Q :=
  ⟨sO a, sO b, rfl, rfl, by rw [sO_len, sO_len]; exact sz1 h, by rw [sO_app]; exact k⟩
theorem vixS {a : List Nat} {i : Int} {c : Nat} (h : a.length ≤ 1000000) (hc : atI a i = some c) (ha : Val ta σ H (.str (sO a))) (hb : Val tb σ H (.int i)) : Val (tOp rIxS ta tb) σ H (.str (sO [c])) := fun Q q =>
  ha _ (hb _ ⟨sO a, i, c, rfl, rfl, by rw [sO_len]; exact sz1 h, by rw [sO_cps]; exact hc, q⟩)
abbrev rLenT : List V → Hp → VK → Prop := fun xs H Q => ∃ z, xs = [.str z] ∧ z.length ≤ sizeLine ∧ Q (.int z.length) H
theorem vlenS {a : List Nat} (h : a.length ≤ 1000000) (ha : Val ta σ H (.str (sO a))) : Val (tCB rLenT (tCons ta tNil)) σ H (.int a.length) := fun Q q =>
  ha _ ⟨sO a, rfl, by rw [sO_len]; exact sz1 h, by rw [sO_len]; exact q⟩
theorem veqS {a b : List Nat} (ha : Val ta σ H (.str (sO a))) (hb : Val tb σ H (.str (sO b))) : Val (tOp rEq ta tb) σ H (.bl (decide (a = b))) := fun Q q =>
  ha _ (hb _ ⟨rfl, by rw [dec_eq_V (fun x => V.str (sO x)) (fun _ _ e => sO_inj (V.str.inj e))]; exact q⟩)
theorem vneS {a b : List Nat} (ha : Val ta σ H (.str (sO a))) (hb : Val tb σ H (.str (sO b))) : Val (tOp rNe ta tb) σ H (.bl (decide (a ≠ b))) := fun Q q =>
  ha _ (hb _ ⟨rfl, by rw [dec_eq_V (fun x => V.str (sO x)) (fun _ _ e => sO_inj (V.str.inj e)), dec_not]; exact q⟩)
theorem r_eqS {a b : List Nat} {Q : VK} (k : Q (.bl (decide (a = b))) H) : rEq (.str (sO a)) (.str (sO b)) H Q := ⟨rfl, by rw [dec_eq_V (fun x => V.str (sO x)) (fun _ _ e => sO_inj (V.str.inj e))]; exact k⟩
theorem r_neS {a b : List Nat} {Q : VK} (k : Q (.bl (decide (a ≠ b))) H) : rNe (.str (sO a)) (.str (sO b)) H Q := ⟨rfl, by rw [dec_eq_V (fun x => V.str (sO x)) (fun _ _ e => sO_inj (V.str.inj e)), dec_not]; exact k⟩
abbrev rOrd : List V → Hp → VK → Prop := fun xs H Q => ∃ x, xs = [.str x] ∧ x.length = 1 ∧ Q (.int (x.cps.getD 0 0 : Nat)) H
theorem vord {c : Nat} (ha : Val ta σ H (.str (sO [c]))) : Val (tCB rOrd (tCons ta tNil)) σ H (.int c) := fun Q q => ha _ ⟨sO [c], rfl, rfl, q⟩
/-- for c in s -/
theorem s_forS {a : List Nat} {n : Nat} (h : Val te σ H (.str (sO a))) (Pv : Nat → L2.St → Hp → Prop) (h0 : Pv 0 σ H)
    (hs : ∀ i c σ' H', a[i]? = some c → Pv i σ' H' → tu { D with nx := Pv (i + 1), ct := Pv (i + 1), bk := tz D } (σ'.set n (some (.str (sO [c])))) H') (hd : ∀ σ' H', Pv a.length σ' H' → tz D σ' H') : tSeq (tFor (iStr te) (gName n) tu) tz D σ H :=
  h _ ⟨sO a, rfl, for_it (n := a.length) (Y := fun i H v H' => H' = H ∧ ∃ c, a[i]? = some c ∧ v = .str (sO [c])) ⟨fun i _ hi _ => by
      show i < (sO a).cps.size
      simpa [sO] using hi, fun _ _ => by
      show (sO a).cps.size ≤ a.length
      simp [sO], fun i _ x _ _ _ y => by
      obtain ⟨e, c, hc, hv⟩ := y
      refine ⟨e, c, ?_, hv⟩
      have hc' : (sO a).cps[i]? = some c := hc
      simpa [sO] using hc'⟩ (G := fun _ => True) Pv h0 (fun _ _ _ _ _ => trivial) (fun i x σ1 H1 H2 hi hp y => by
    obtain ⟨rfl, c, hc, rfl⟩ := y
    exact hs i c σ1 H2 hc hp) hd⟩
/-- [e for c in s] -/
theorem map_comp_V {α β : Type} (f : α → β) (v : β → V) (a : List α) : a.map (fun c => v (f c)) = (a.map f).map v := (List.map_map ..).symm
abbrev rJoin (K : PySem.W.Frag) : V → List V → Hp → VK → Prop := fun x xs H Q => ∃ a p, ∃ ys : List Str, x = .str a ∧ xs = [.ref p] ∧ (SqL K H p (ys.map V.str) ∨ SqT K H p (ys.map V.str)) ∧ (ys.map (·.length)).sum + ys.length * a.length ≤ 16777216 ∧ Q (.str (Txt.join a ys)) H
theorem c_m1 {r : V → List V → Hp → VK → Prop} {Q : VK} (k : ta σ H fun x H1 => (∃ a, x = .str a) ∧ te σ H1 fun y H2 => r x [y] H2 Q) : tM1 r ta te σ H Q := k
theorem fold_join (acc : List Nat) : ∀ ws : List (List Nat), (ws.map sO).foldl (fun (acc : Array Nat) (p : Str) => acc ++ (sO []).cps ++ p.cps) acc.toArray = (acc ++ ws.flatten).toArray
  | [] => by simp
  | w :: r => by
    have e : acc.toArray ++ (sO []).cps ++ (sO w).cps = (acc ++ w).toArray := by simp [sO]
    rw [List.map_cons, List.foldl_cons, e, fold_join (acc ++ w) r, List.flatten_cons, List.append_assoc]
theorem join_nil (ws : List (List Nat)) : Txt.join (sO []) (ws.map sO) = sO ws.flatten := by
  show (⟨((ws.map sO).drop 1).foldl (fun acc p => acc ++ (sO []).cps ++ p.cps) ((ws.map sO).headD Str.empty).cps⟩ : Str) = sO ws.flatten
  cases ws with
  | nil => rfl
  | cons w r =>
    show (⟨(r.map sO).foldl (fun acc p => acc ++ (sO []).cps ++ p.cps) w.toArray⟩ : Str) = sO (w :: r).flatten
    rw [fold_join w r, List.flatten_cons]; rfl
theorem len_strs (ws : List (List Nat)) : ((ws.map sO).map (·.length)).sum = ws.flatten.length := by
  induction ws with
  | nil => rfl
  | cons w r ih => rw [List.map_cons, List.map_cons, List.sum_cons, ih, List.flatten_cons, List.length_append, sO_len]
theorem r_join {ws : List (List Nat)} {p : Addr} {Q : VK} (h : SqL K H p ((ws.map sO).map V.str)) (hl : ws.flatten.length ≤ 1000000) (k : Q (.str (sO ws.flatten)) H) : rJoin K (.str (sO [])) [.ref p] H Q :=
  ⟨sO [], p, ws.map sO, rfl, rfl, .inl h, by
    rw [len_strs]
    have e : (sO []).length = 0 := rfl
    rw [e, Nat.mul_zero]; omega, by rw [join_nil]; exact k⟩
end
end G

/-! ### data: sizes, equality, places; comprehensions and conjunctions over the state -/
namespace G
open PySem PySem.Spec PyProof.Rows L2
noncomputable instance decPD : DecidableEq PyData := fun _ _ => Classical.propDecidable _
mutual
def nbl : PyData → Bool
  | .none => true
  | .bool _ => false
  | .int _ => true
  | .str _ => true
  | .list xs => nbls xs
  | .tuple xs => nbls xs
  | .dict _ => false
def nbls : List PyData → Bool
  | [] => true
  | d :: r => nbl d && nbls r
end
/-- data without bools, of at most this depth -/
def dok (n : Nat) (d : PyData) : Bool := nbl d && d.canLay0 && decide (d.depth ≤ n)
theorem dok_shp {n : Nat} {d : PyData} (h : dok n d = true) (hn : n ≤ 64) : SeqAt.shaped d = true := by
  unfold dok at h
  simp only [Bool.and_eq_true, decide_eq_true_eq] at h
  unfold SeqAt.shaped
  simp only [Bool.and_eq_true, decide_eq_true_eq]
  exact ⟨h.1.2, Nat.le_trans h.2 hn⟩
theorem dok_le {n m : Nat} {d : PyData} (h : dok n d = true) (hn : n ≤ m) : dok m d = true := by
  unfold dok at *
  simp only [Bool.and_eq_true, decide_eq_true_eq] at *
  exact ⟨h.1, Nat.le_trans h.2 hn⟩
theorem dok_nb {n : Nat} {d : PyData} (h : dok n d = true) : nbl d = true := by
  unfold dok at h
  simp only [Bool.and_eq_true] at h
  exact h.1.1
mutual
theorem eqv_iff : ∀ a b : PyData, nbl a = true → nbl b = true → (PyData.eqv a b = true ↔ a = b)
  | .none, b, _, hb => by cases b <;> simp [PyData.eqv]
  | .bool _, _, ha, _ => by simp [nbl] at ha
  | .int i, b, _, hb => by cases b <;> simp [PyData.eqv, nbl] at * 
  | .str s, b, _, hb => by cases b <;> simp [PyData.eqv]
  | .list xs, b, ha, hb => by
    cases b with
    | list ys => rw [PyData.eqv, eqvs_iff xs ys (by simpa [nbl] using ha) (by simpa [nbl] using hb)]; simp
    | _ => simp [PyData.eqv]
  | .tuple xs, b, ha, hb => by
    cases b with
    | tuple ys => rw [PyData.eqv, eqvs_iff xs ys (by simpa [nbl] using ha) (by simpa [nbl] using hb)]; simp
    | _ => simp [PyData.eqv]
  | .dict _, _, ha, _ => by simp [nbl] at ha
theorem eqvs_iff : ∀ a b : List PyData, nbls a = true → nbls b = true → (PyData.eqvAll a b = true ↔ a = b)
  | [], [], _, _ => by simp [PyData.eqvAll]
  | [], _ :: _, _, _ => by simp [PyData.eqvAll]
  | _ :: _, [], _, _ => by simp [PyData.eqvAll]
  | x :: xs, y :: ys, ha, hb => by
    simp only [nbls, Bool.and_eq_true] at ha hb
    rw [PyData.eqvAll, Bool.and_eq_true, eqv_iff x y ha.1 hb.1, eqvs_iff xs ys ha.2 hb.2]
    simp
end
theorem eqv_dec {n m : Nat} {a b : PyData} (ha : dok n a = true) (hb : dok m b = true) : PyData.eqv a b = decide (a = b) := by
  have := eqv_iff a b (dok_nb ha) (dok_nb hb)
  by_cases h : a = b
  · rw [decide_eq_true h, this.mpr h]
  · rw [decide_eq_false h]
    cases e : PyData.eqv a b with
    | true => exact (h (this.mp e)).elim
    | false => rfl
theorem nbls_all : ∀ ds : List PyData, nbls ds = true ↔ ∀ d ∈ ds, nbl d = true
  | [] => by simp [nbls]
  | d :: r => by simp [nbls, nbls_all r]
theorem lays_all : ∀ ds : List PyData, PyData.canLayAll0 ds = true ↔ ∀ d ∈ ds, PyData.canLay0 d = true
  | [] => by simp [PyData.canLayAll0]
  | d :: r => by simp [PyData.canLayAll0, lays_all r]
theorem dep_all {n : Nat} : ∀ ds : List PyData, PyData.depthAll ds ≤ n ↔ ∀ d ∈ ds, PyData.depth d ≤ n
  | [] => by simp [PyData.depthAll]
  | d :: r => by
    have := dep_all (n := n) r
    simp only [PyData.depthAll, List.mem_cons, forall_eq_or_imp, Nat.max_le]
    rw [this]
theorem dok_list {n : Nat} {ds : List PyData} (h : ∀ d ∈ ds, dok n d = true) : dok (n + 1) (.list ds) = true := by
  have h' : ∀ d ∈ ds, (nbl d = true ∧ d.canLay0 = true) ∧ d.depth ≤ n := fun d hd => by
    have := h d hd
    unfold dok at this
    simpa only [Bool.and_eq_true, decide_eq_true_eq] using this
  unfold dok
  simp only [Bool.and_eq_true, decide_eq_true_eq]
  refine ⟨⟨?_, ?_⟩, ?_⟩
  · rw [nbl, nbls_all]; exact fun d hd => (h' d hd).1.1
  · rw [PyData.canLay0, lays_all]; exact fun d hd => (h' d hd).1.2
  · have := (dep_all (n := n) ds).mpr fun d hd => (h' d hd).2
    simp only [PyData.depth]; omega
theorem dok_tuple {n : Nat} {ds : List PyData} (h : ∀ d ∈ ds, dok n d = true) : dok (n + 1) (.tuple ds) = true := by
  have h' : ∀ d ∈ ds, (nbl d = true ∧ d.canLay0 = true) ∧ d.depth ≤ n := fun d hd => by
    have := h d hd
    unfold dok at this
    simpa only [Bool.and_eq_true, decide_eq_true_eq] using this
  unfold dok
  simp only [Bool.and_eq_true, decide_eq_true_eq]
  refine ⟨⟨?_, ?_⟩, ?_⟩
  · rw [nbl, nbls_all]; exact fun d hd => (h' d hd).1.1
  · rw [PyData.canLay0, lays_all]; exact fun d hd => (h' d hd).1.2
  · have := (dep_all (n := n) ds).mpr fun d hd => (h' d hd).2
    simp only [PyData.depth]; omega
theorem dok_int (n : Nat) (i : Int) : dok n (.int i) = true := by simp [dok, nbl, PyData.canLay0, PyData.depth]
theorem dok_none (n : Nat) : dok n .none = true := by simp [dok, nbl, PyData.canLay0, PyData.depth]
theorem dok_ints (n : Nat) (ns : List Int) : ∀ d ∈ ns.map PyData.int, dok n d = true := fun d hd => by
  obtain ⟨i, _, rfl⟩ := List.mem_map.mp hd
  exact dok_int n i
theorem dok_str {n : Nat} {s : Str} (h : (PyData.str s).canLay0 = true) : dok n (.str s) = true := by simp [dok, nbl, PyData.depth, h]
def isN : PyData → Bool
  | .none => true
  | _ => false
/-! places -/
def vg (xs : List V) (i : Int) : V := xs.getD i.toNat .non
def dg (ds : List PyData) (i : Int) : PyData := ds.getD i.toNat .none
section
variable {K : PySem.W.Frag} {σ σ' : L2.St} {H Z B Y : Hp} {F : Addr → Prop} {L : List As} {ta tb te : TE} {tt : TT} {tz tu : TS} {D : Ends} {xs vs : List V} {ds : List PyData} {v w : V} {d e : PyData} {a p : Addr} {i : Int}
theorem at_vg (h0 : 0 ≤ i) (h1 : i < (xs.length : Int)) : atI xs i = some (vg xs i) := by
  obtain ⟨n, rfl⟩ := Int.eq_ofNat_of_zero_le h0
  refine atI_nat ?_
  have hn : n < xs.length := by omega
  rw [List.getElem?_eq_getElem hn]
  show some xs[n] = some (xs.getD n .non)
  rw [List.getD_eq_getElem?_getD, List.getElem?_eq_getElem hn]; rfl
theorem dps_len : ∀ {vs : List V} {ds : List PyData}, DpAll K Z vs ds → vs.length = ds.length
  | _, _, .nil => rfl
  | _, _, .cons _ h => congrArg Nat.succ (dps_len h)
theorem dps_get : ∀ {vs : List V} {ds : List PyData}, DpAll K Z vs ds → ∀ i : Nat, Dp K Z (vs.getD i .non) (ds.getD i .none)
  | _, _, .nil, i => by rw [List.getD_nil, List.getD_nil]; exact .non
  | _, _, .cons h _, 0 => h
  | _, _, .cons _ h, i + 1 => dps_get h i
theorem dps_at (h : DpAll K Z vs ds) (i : Int) : Dp K Z (vg vs i) (dg ds i) := dps_get h i.toNat
theorem dps_set : ∀ {vs : List V} {ds : List PyData}, DpAll K Z vs ds → ∀ (i : Nat) {v : V} {d : PyData}, Dp K Z v d → DpAll K Z (vs.set i v) (ds.set i d)
  | _, _, .nil, _, _, _, _ => .nil
  | _, _, .cons _ h, 0, _, _, k => .cons k h
  | _, _, .cons h0 h, i + 1, _, _, k => .cons h0 (dps_set h i k)
theorem dps_app : ∀ {vs ws : List V} {ds es : List PyData}, DpAll K Z vs ds → DpAll K Z ws es → DpAll K Z (vs ++ ws) (ds ++ es)
  | _, _, _, _, .nil, k => k
  | _, _, _, _, .cons h0 h, k => .cons h0 (dps_app h k)
theorem dps_one (k : Dp K Z v d) : DpAll K Z [v] [d] := .cons k .nil
theorem dps_snoc (h : DpAll K Z vs ds) (k : Dp K Z v d) : DpAll K Z (vs ++ [v]) (ds ++ [d]) := dps_app h (dps_one k)
theorem dps_rep (k : Dp K Z v d) : ∀ n : Nat, DpAll K Z (List.replicate n v) (List.replicate n d)
  | 0 => .nil
  | n + 1 => .cons k (dps_rep k n)
theorem dps_take : ∀ {vs : List V} {ds : List PyData}, DpAll K Z vs ds → ∀ n : Nat, DpAll K Z (vs.take n) (ds.take n)
  | _, _, .nil, n => by rw [List.take_nil, List.take_nil]; exact .nil
  | _, _, .cons _ _, 0 => .nil
  | _, _, .cons h0 h, n + 1 => .cons h0 (dps_take h n)
theorem dps_drop : ∀ {vs : List V} {ds : List PyData}, DpAll K Z vs ds → ∀ n : Nat, DpAll K Z (vs.drop n) (ds.drop n)
  | _, _, .nil, n => by rw [List.drop_nil, List.drop_nil]; exact .nil
  | _, _, .cons h0 h, 0 => .cons h0 h
  | _, _, .cons _ h, n + 1 => dps_drop h n
theorem dps_ix : ∀ {vs : List V} {ds : List PyData}, DpAll K Z vs ds → ∀ {i : Nat} {x : V}, vs[i]? = some x → ∃ d, ds[i]? = some d ∧ Dp K Z x d
  | _, _, .nil, _, _, h => by cases h
  | _, _, .cons h0 _, 0, _, h => ⟨_, rfl, by cases h; exact h0⟩
  | _, _, .cons _ h, _ + 1, _, k => dps_ix h (by simpa using k)
theorem dps_ints : ∀ ns : List Int, DpAll K Z (ns.map V.int) (ns.map PyData.int)
  | [] => .nil
  | n :: r => .cons (.int n) (dps_ints r)
theorem dp_int {n : Int} (h : Dp K Z v (.int n)) : v = .int n := by cases h; rfl
theorem dp_non (h : Dp K Z v .none) : v = .non := by cases h; rfl
theorem dp_str {x : Str} (h : Dp K Z v (.str x)) : v = .str x := by cases h; rfl
theorem dp_bool {b : Bool} (h : Dp K Z v (.bool b)) : v = .bl b := by cases h; rfl
theorem dp_tup (h : Dp K Z v (.tuple ds)) : ∃ p us, v = .ref p ∧ SqT K Z p us ∧ DpAll K Z us ds := by
  cases h with
  | tup s q => exact ⟨_, _, rfl, s, q⟩
theorem dp_lst (h : Dp K Z v (.list ds)) : ∃ p us, v = .ref p ∧ SqL K Z p us ∧ DpAll K Z us ds := by
  cases h with
  | lst s q => exact ⟨_, _, rfl, s, q⟩
theorem dps_c (h : DpAll K Z vs (d :: ds)) : ∃ v us, vs = v :: us ∧ Dp K Z v d ∧ DpAll K Z us ds := by
  cases h with
  | cons a b => exact ⟨_, _, rfl, a, b⟩
theorem dps_n (h : DpAll K Z vs []) : vs = [] := by cases h; rfl
theorem dp_isN (h : Dp K Z v d) : decide (v = V.non) = decide (isN d = true) := by
  cases h <;> simp [isN]
theorem visND (hd : Dp K Z v d) (ha : Val ta σ H v) : Val (tOp rIsN ta (tC .non)) σ H (.bl (decide (isN d = true))) := by
  have := visN ha
  rw [dp_isN hd] at this; exact this
theorem vnotND (hd : Dp K Z v d) (ha : Val ta σ H v) : Val (tOp rNotN ta (tC .non)) σ H (.bl (decide (¬ isN d = true))) := by
  have := vnotN ha
  rw [show decide (v ≠ V.non) = decide (¬ isN d = true) from by rw [← dec_not, ← dec_not, dp_isN hd]] at this; exact this
/-- x == y of data -/
theorem r_eqD {hu : Nat} {Q : VK} (sa : SeqAt.shaped d = true) (sb : SeqAt.shaped e = true) (k : Q (.bl (PyData.eqv d e)) H) : SeqAt.shaped d = true ∧ SeqAt.shaped e = true ∧ Q (.bl (PyData.eqv d e)) H := ⟨sa, sb, k⟩
theorem Hs.datAt (s : Hs F B Y L H Z) (i : Nat) (h : L[i]? = some (ld K p xs ds)) (j : Int) : Dp K Z (vg xs j) (dg ds j) := dps_at (s.lds i h) j
theorem Hs.ldlen (s : Hs F B Y L H Z) (i : Nat) (h : L[i]? = some (ld K p xs ds)) : xs.length = ds.length := dps_len (s.lds i h)
/-! conjunctions whose parts make things -/
variable {pP qQ : Prop} [Decidable pP] [Decidable qQ]
theorem c_andV {Q : VK} (s : Hs F B Y L H Z) (ha : Val ta σ H (.bl (decide pP))) (hb : pP → ∀ Q : VK, (∀ H' Z', Hs F B Y L H' Z' → Q (.bl (decide qQ)) H') → tb σ H Q)
    (k : ∀ H' Z', Hs F B Y L H' Z' → Q (.bl (decide (pP ∧ qQ))) H') : tAndV ta tb σ H Q := ha _ ⟨_, rfl, by
  by_cases hp : pP
  · rw [decide_eq_true hp]
    refine hb hp Q fun H' Z' h => ?_
    rw [show decide qQ = decide (pP ∧ qQ) from by simp [hp]]; exact k H' Z' h
  · rw [decide_eq_false hp]
    have := k H Z s
    rw [show decide (pP ∧ qQ) = false from by simp [hp]] at this; exact this⟩
theorem c_orV {Q : VK} (s : Hs F B Y L H Z) (ha : Val ta σ H (.bl (decide pP))) (hb : ¬ pP → ∀ Q : VK, (∀ H' Z', Hs F B Y L H' Z' → Q (.bl (decide qQ)) H') → tb σ H Q)
    (k : ∀ H' Z', Hs F B Y L H' Z' → Q (.bl (decide (pP ∨ qQ))) H') : tOrV ta tb σ H Q := ha _ ⟨_, rfl, by
  by_cases hp : pP
  · rw [decide_eq_true hp]
    have := k H Z s
    rw [show decide (pP ∨ qQ) = true from by simp [hp]] at this; exact this
  · rw [decide_eq_false hp]
    refine hb hp Q fun H' Z' h => ?_
    rw [show decide qQ = decide (pP ∨ qQ) from by simp [hp]]; exact k H' Z' h⟩
theorem c_andW {Q : VK} (s0 : Hs F B Y L H Z) (ha : ∀ Q : VK, (∀ H' Z', Hs F B Y L H' Z' → Q (.bl (decide pP)) H') → ta σ H Q) (hb : ∀ H' Z', Hs F B Y L H' Z' → pP → ∀ Q : VK, (∀ H'' Z'', Hs F B Y L H'' Z'' → Q (.bl (decide qQ)) H'') → tb σ H' Q)
    (k : ∀ H' Z', Hs F B Y L H' Z' → Q (.bl (decide (pP ∧ qQ))) H') : tAndV ta tb σ H Q := ha _ fun H1 Z1 s1 => ⟨_, rfl, by
  by_cases hp : pP
  · rw [decide_eq_true hp]
    refine hb H1 Z1 s1 hp Q fun H' Z' h => ?_
    rw [show decide qQ = decide (pP ∧ qQ) from by simp [hp]]; exact k H' Z' h
  · rw [decide_eq_false hp]
    have := k H1 Z1 s1
    rw [show decide (pP ∧ qQ) = false from by simp [hp]] at this; exact this⟩
theorem c_orW {Q : VK} (s0 : Hs F B Y L H Z) (ha : ∀ Q : VK, (∀ H' Z', Hs F B Y L H' Z' → Q (.bl (decide pP)) H') → ta σ H Q) (hb : ∀ H' Z', Hs F B Y L H' Z' → ¬ pP → ∀ Q : VK, (∀ H'' Z'', Hs F B Y L H'' Z'' → Q (.bl (decide qQ)) H'') → tb σ H' Q)
    (k : ∀ H' Z', Hs F B Y L H' Z' → Q (.bl (decide (pP ∨ qQ))) H') : tOrV ta tb σ H Q := ha _ fun H1 Z1 s1 => ⟨_, rfl, by
  by_cases hp : pP
  · rw [decide_eq_true hp]
    have := k H1 Z1 s1
    rw [show decide (pP ∨ qQ) = true from by simp [hp]] at this; exact this
  · rw [decide_eq_false hp]
    refine hb H1 Z1 s1 hp Q fun H' Z' h => ?_
    rw [show decide qQ = decide (pP ∨ qQ) from by simp [hp]]; exact k H' Z' h⟩
/-! comprehensions -/
def fm (p : Int → Prop) [DecidablePred p] (f : Int → Int) (ns : List Int) : List Int := (ns.filter fun x => decide (p x)).map f
theorem fm_le (p : Int → Prop) [DecidablePred p] (f : Int → Int) (ns : List Int) : (fm p f ns).length ≤ ns.length := by
  unfold fm; rw [List.length_map]; exact List.length_filter_le _ _
theorem fm_snoc (p : Int → Prop) [DecidablePred p] (f : Int → Int) (ns : List Int) (n : Int) : fm p f (ns ++ [n]) = fm p f ns ++ (if p n then [f n] else []) := by
  unfold fm
  rw [List.filter_append, List.map_append]
  by_cases h : p n
  · simp [h]
  · simp [h]
def rgI (lo : Int) (n : Nat) : List Int := (List.range n).map fun (j : Nat) => lo + (j : Int)
theorem rgI_snoc (lo : Int) (n : Nat) : rgI lo (n + 1) = rgI lo n ++ [lo + (n : Int)] := by unfold rgI; rw [List.range_succ, List.map_append]; rfl
theorem rgI_len (lo : Int) (n : Nat) : (rgI lo n).length = n := by unfold rgI; rw [List.length_map, List.length_range]
theorem mem_rgI {lo x : Int} {n : Nat} : x ∈ rgI lo n ↔ lo ≤ x ∧ x < lo + (n : Int) := by
  unfold rgI
  rw [List.mem_map]
  constructor
  · rintro ⟨j, hj, rfl⟩; have := List.mem_range.mp hj; omega
  · rintro ⟨h0, h1⟩; exact ⟨(x - lo).toNat, List.mem_range.mpr (by omega), by omega⟩
theorem Hs.tl {A : As} (s : Hs F B Y (A :: L) H Z) : Hs F B Y L H Z := by
  obtain ⟨S, w, q⟩ := s.own
  exact ⟨s.fr, s.al, s.zh, s.yz, s.zy, s.yf, fun i => S (i + 1), ⟨fun i A e => w.on (i + 1) A e, fun i j a x y => Nat.succ.inj (w.dj _ _ a x y)⟩, fun i a y => q (i + 1) a y⟩
theorem c_lcF {ns : List Int} {j : Nat} {vs : List Nat} {Q : VK} (p : Int → Prop) [DecidablePred p] (f : Int → Int) (s : Hs F B Y L H Z) (h : Val te σ H (.ref a)) (hl : ∀ H', Hs F B Y L H' Z → SqL K H' a (ns.map V.int)) (hn : ns.length ≤ 100000) (hw : ∀ x, wipe ((wipe σ vs).set j (some x)) vs = wipe σ vs)
    (ht : ∀ (i : Nat) n H', ns[i]? = some n → Hs F B Y L H' Z → Ans tt ((wipe σ vs).set j (some (.int n))) H' (p n))
    (he : ∀ (i : Nat) n H', ns[i]? = some n → p n → Hs F B Y L H' Z → Val tb ((wipe σ vs).set j (some (.int n))) H' (.int (f n)))
    (k : ∀ D H', Hs F B Y (c D (.lst ((fm p f ns).map V.int)) :: L) H' Z → Q (.ref D) H') : tLc (iList K te) (gName j) tt tb vs σ H Q :=
  h _ ⟨a, rfl, ⟨_, hl H s⟩, fun D hD => lc_list (xs := ns.map V.int) (fun i H' => Hs F B Y (c D (.lst ((fm p f (ns.take i)).map V.int)) :: L) H' Z) (s.new hD _) (fun i H' _ q => hl _ q.tl) (fun i x H2 hx q => by
    rw [List.getElem?_map] at hx
    cases e : ns[i]? with
    | none => rw [e] at hx; cases hx
    | some n =>
      rw [e] at hx; cases hx
      show wipe ((wipe σ vs).set j (some (.int n))) vs = wipe σ vs ∧ tt ((wipe σ vs).set j (some (.int n))) H2 fun b H3 =>
        if b = true then tb ((wipe σ vs).set j (some (.int n))) H3 fun y H4 => ∃ acc, H4 D = some (.lst acc) ∧ acc.length < sizeLine ∧ Hs F B Y (c D (.lst ((fm p f (ns.take (i + 1))).map V.int)) :: L) (upd H4 D (.lst (acc ++ [y]))) Z
        else Hs F B Y (c D (.lst ((fm p f (ns.take (i + 1))).map V.int)) :: L) H3 Z
      refine ⟨hw _, ht i n H2 e q.tl _ ?_⟩
      have e1 : ns.take (i + 1) = ns.take i ++ [n] := by rw [List.take_add_one, e]; rfl
      rw [e1, fm_snoc]
      by_cases hp : p n
      · rw [decide_eq_true hp, if_pos hp]
        refine he i n H2 e hp q.tl _ ⟨_, q.mem 0 rfl, sz2 (by rw [List.length_map]; exact Nat.lt_of_le_of_lt (fm_le ..) (by rw [List.length_take]; omega)), ?_⟩
        rw [List.map_append]
        exact q.wr 0 _ rfl
      · rw [decide_eq_false hp, if_neg hp, List.append_nil]
        exact q) (fun H' q => k D H' (by rwa [List.length_map, List.take_length] at q))⟩
theorem c_lcR2 {lo m : Int} {tr : TA} {j : Nat} {vs : List Nat} {Q : VK} (p : Int → Prop) [DecidablePred p] (f : Int → Int) (s : Hs F B Y L H Z) (h : VA tr σ H [.int lo, .int m]) (hn : -1000000 ≤ lo ∧ lo ≤ 1000000 ∧ -1000000 ≤ m ∧ m - lo ≤ 100000) (hw : ∀ x, wipe ((wipe σ vs).set j (some x)) vs = wipe σ vs)
    (ht : ∀ n H', lo ≤ n → n < m → Hs F B Y L H' Z → Ans tt ((wipe σ vs).set j (some (.int n))) H' (p n))
    (he : ∀ n H', lo ≤ n → n < m → p n → Hs F B Y L H' Z → Val te ((wipe σ vs).set j (some (.int n))) H' (.int (f n)))
    (k : ∀ D H', Hs F B Y (c D (.lst ((fm p f (rgI lo (m - lo).toNat)).map V.int)) :: L) H' Z → Q (.ref D) H') : tLc (iRng2 tr) (gName j) tt te vs σ H Q :=
  h _ ⟨lo, m, rfl, by omega, fun D hD => lc_range (lo := lo) (n := (m - lo).toNat) (fun i H' => Hs F B Y (c D (.lst ((fm p f (rgI lo i)).map V.int)) :: L) H' Z) (s.new hD _) (fun i H2 hi q => by
    show wipe ((wipe σ vs).set j (some (.int (lo + (i : Int))))) vs = wipe σ vs ∧ tt ((wipe σ vs).set j (some (.int (lo + (i : Int))))) H2 fun b H3 =>
        if b = true then te ((wipe σ vs).set j (some (.int (lo + (i : Int))))) H3 fun y H4 => ∃ acc, H4 D = some (.lst acc) ∧ acc.length < sizeLine ∧ Hs F B Y (c D (.lst ((fm p f (rgI lo (i + 1))).map V.int)) :: L) (upd H4 D (.lst (acc ++ [y]))) Z
        else Hs F B Y (c D (.lst ((fm p f (rgI lo (i + 1))).map V.int)) :: L) H3 Z
    refine ⟨hw _, ht _ H2 (by omega) (by omega) q.tl _ ?_⟩
    rw [rgI_snoc, fm_snoc]
    by_cases hp : p (lo + (i : Int))
    · rw [decide_eq_true hp, if_pos hp]
      refine he _ H2 (by omega) (by omega) hp q.tl _ ⟨_, q.mem 0 rfl, sz2 (by rw [List.length_map]; exact Nat.lt_of_le_of_lt (fm_le ..) (by rw [rgI_len]; omega)), ?_⟩
      rw [List.map_append]
      exact q.wr 0 _ rfl
    · rw [decide_eq_false hp, if_neg hp, List.append_nil]
      exact q) (fun H' q => k D H' q)⟩
theorem c_lcR {n : Int} {tr : TA} {j : Nat} {vs : List Nat} {Q : VK} (f : Nat → Int) (s : Hs F B Y L H Z) (h : VA tr σ H [.int n]) (hn : 0 ≤ n ∧ n ≤ 1000000) (hw : ∀ x, wipe ((wipe σ vs).set j (some x)) vs = wipe σ vs)
    (he : ∀ (i : Nat) H', (i : Int) < n → Hs F B Y L H' Z → Val te ((wipe σ vs).set j (some (.int (i : Int)))) H' (.int (f i)))
    (k : ∀ D H', Hs F B Y (c D (.lst (((List.range n.toNat).map f).map V.int)) :: L) H' Z → Q (.ref D) H') : tLc (iRng1 tr) (gName j) tYes te vs σ H Q :=
  h _ ⟨n, rfl, by omega, by omega, fun D hD => lc_range (lo := 0) (n := n.toNat) (fun i H' => Hs F B Y (c D (.lst (((List.range i).map f).map V.int)) :: L) H' Z) (s.new hD _) (fun i H' hi p => by
    show wipe ((wipe σ vs).set j (some (.int ((0 : Int) + (i : Int))))) vs = wipe σ vs ∧ te ((wipe σ vs).set j (some (.int ((0 : Int) + (i : Int))))) H' fun y H4 => ∃ acc, H4 D = some (.lst acc) ∧ acc.length < sizeLine ∧ Hs F B Y (c D (.lst (((List.range (i + 1)).map f).map V.int)) :: L) (upd H4 D (.lst (acc ++ [y]))) Z
    rw [Int.zero_add]
    refine ⟨hw _, he i H' (by omega) p.tl _ ⟨((List.range i).map f).map V.int, p.mem 0 rfl, sz2 (by simp only [List.length_map, List.length_range]; omega), ?_⟩⟩
    rw [range_map_snoc]
    exact p.wr 0 _ rfl) (fun H' p => k D H' p)⟩
/-- [e for x in range(m)], e makes data -/
theorem c_lcRD {n : Int} {tr : TA} {j : Nat} {vs : List Nat} {Q : VK} (K : PySem.W.Frag) (f : Nat → PyData) (s : Hs F B Y L H Z) (h : VA tr σ H [.int n]) (hn : 0 ≤ n ∧ n ≤ 1000000) (hw : ∀ x, wipe ((wipe σ vs).set j (some x)) vs = wipe σ vs)
    (he : ∀ (i : Nat) H' Z' (A : As), (i : Int) < n → Hs F B Y (A :: L) H' Z' → ∀ Q : VK, (∀ y H'' Z'', Hs F B Y (A :: L) H'' Z'' → Dp K Z'' y (f i) → Q y H'') → te ((wipe σ vs).set j (some (.int (i : Int)))) H' Q)
    (k : ∀ D ys H' Z', Hs F B Y (ld K D ys ((List.range n.toNat).map f) :: L) H' Z' → Q (.ref D) H') : tLc (iRng1 tr) (gName j) tYes te vs σ H Q :=
  h _ ⟨n, rfl, by omega, by omega, fun D hD => lc_range (lo := 0) (n := n.toNat) (fun i H' => ∃ ys Z', Hs F B Y (ld K D ys ((List.range i).map f) :: L) H' Z') ⟨[], Z, (s.new hD (.lst [])).c2d (K := K) (ds := []) 0 rfl .nil⟩ (fun i H' hi p => by
    obtain ⟨ys, Z', p⟩ := p
    show wipe ((wipe σ vs).set j (some (.int ((0 : Int) + (i : Int))))) vs = wipe σ vs ∧ te ((wipe σ vs).set j (some (.int ((0 : Int) + (i : Int))))) H' fun y H4 => ∃ acc, H4 D = some (.lst acc) ∧ acc.length < sizeLine ∧ ∃ ys Z', Hs F B Y (ld K D ys ((List.range (i + 1)).map f) :: L) (upd H4 D (.lst (acc ++ [y]))) Z'
    rw [Int.zero_add]
    refine ⟨hw _, he i H' Z' _ (by omega) p _ fun y H'' Z'' q hy => ?_⟩
    refine ⟨ys, q.memd 0 rfl, sz2 (by rw [q.ldlen 0 rfl]; simp only [List.length_map, List.length_range]; omega), ys ++ [y], Z'', ?_⟩
    exact q.wrd 0 rfl (ys := ys ++ [y]) (es := (List.range (i + 1)).map f) (fun h => by
      rw [List.range_succ, List.map_append]; exact dps_snoc h hy)) (fun H' p => by
    obtain ⟨ys, Z', p⟩ := p
    exact k D ys H' Z' p)⟩
/-- the same, when only a property of each item is told -/
theorem c_lcRE {n : Int} {tr : TA} {j : Nat} {vs : List Nat} {Q : VK} (K : PySem.W.Frag) (R : Nat → PyData → Prop) (s : Hs F B Y L H Z) (h : VA tr σ H [.int n]) (hn : 0 ≤ n ∧ n ≤ 1000000) (hw : ∀ x, wipe ((wipe σ vs).set j (some x)) vs = wipe σ vs)
    (he : ∀ (i : Nat) H' Z' (A : As), (i : Int) < n → Hs F B Y (A :: L) H' Z' → ∀ Q : VK, (∀ y d H'' Z'', Hs F B Y (A :: L) H'' Z'' → Dp K Z'' y d → R i d → Q y H'') → te ((wipe σ vs).set j (some (.int (i : Int)))) H' Q)
    (k : ∀ D ys es H' Z', Hs F B Y (ld K D ys es :: L) H' Z' → es.length = n.toNat → (∀ i d, es[i]? = some d → R i d) → Q (.ref D) H') : tLc (iRng1 tr) (gName j) tYes te vs σ H Q :=
  h _ ⟨n, rfl, by omega, by omega, fun D hD => lc_range (lo := 0) (n := n.toNat) (fun i H' => ∃ ys es Z', Hs F B Y (ld K D ys es :: L) H' Z' ∧ es.length = i ∧ ∀ i d, es[i]? = some d → R i d) ⟨[], [], Z, (s.new hD (.lst [])).c2d (K := K) (ds := []) 0 rfl .nil, rfl, fun i d h => by cases h⟩ (fun i H' hi p => by
    obtain ⟨ys, es, Z', p, hl, hR⟩ := p
    show wipe ((wipe σ vs).set j (some (.int ((0 : Int) + (i : Int))))) vs = wipe σ vs ∧ te ((wipe σ vs).set j (some (.int ((0 : Int) + (i : Int))))) H' fun y H4 => ∃ acc, H4 D = some (.lst acc) ∧ acc.length < sizeLine ∧ ∃ ys es Z', Hs F B Y (ld K D ys es :: L) (upd H4 D (.lst (acc ++ [y]))) Z' ∧ es.length = i + 1 ∧ ∀ i d, es[i]? = some d → R i d
    rw [Int.zero_add]
    refine ⟨hw _, he i H' Z' _ (by omega) p _ fun y d H'' Z'' q hy hd => ?_⟩
    refine ⟨ys, q.memd 0 rfl, sz2 (by rw [q.ldlen 0 rfl]; omega), ys ++ [y], es ++ [d], Z'', q.wrd 0 rfl (fun h => dps_snoc h hy), by rw [List.length_append, hl]; rfl, fun j d' hj => ?_⟩
    by_cases hlt : j < es.length
    · rw [List.getElem?_append_left hlt] at hj; exact hR j d' hj
    · rw [List.getElem?_append_right (by omega)] at hj
      have : j - es.length = 0 := by
        cases e : j - es.length with
        | zero => rfl
        | succ m => rw [e] at hj; cases hj
      rw [this] at hj
      cases hj
      have : j = i := by omega
      rw [this]; exact hd) (fun H' p => by
    obtain ⟨ys, es, Z', p, hl, hR⟩ := p
    exact k D ys es H' Z' p hl hR)⟩
theorem c_lcS {a : List Nat} {j : Nat} {vs : List Nat} {Q : VK} (g : Nat → V) (s : Hs F B Y L H Z) (h : Val te σ H (.str (sO a))) (hn : a.length ≤ 100000) (hw : ∀ x, wipe ((wipe σ vs).set j (some x)) vs = wipe σ vs)
    (he : ∀ (i c : Nat) H', a[i]? = some c → Hs F B Y L H' Z → Val tb ((wipe σ vs).set j (some (.str (sO [c])))) H' (g c))
    (k : ∀ D H', Hs F B Y (G.c D (.lst (a.map g)) :: L) H' Z → Q (.ref D) H') : tLc (iStr te) (gName j) tYes tb vs σ H Q :=
  h _ ⟨sO a, rfl, fun D hD => lc_it (n := a.length) (G := fun _ => True) (Y := fun i H v H' => H' = H ∧ ∃ c, a[i]? = some c ∧ v = .str (sO [c])) ⟨fun i _ hi _ => by
      show i < (sO a).cps.size
      simpa [sO] using hi, fun _ _ => by
      show (sO a).cps.size ≤ a.length
      simp [sO], fun i _ x _ _ _ y => by
      obtain ⟨e, c, hc, hv⟩ := y
      refine ⟨e, c, ?_, hv⟩
      have hc' : (sO a).cps[i]? = some c := hc
      simpa [sO] using hc'⟩ (fun i H' => Hs F B Y (G.c D (.lst ((a.take i).map g)) :: L) H' Z) (s.new hD _) (fun _ _ _ _ => trivial) (fun i x H1 H2 hi p y => by
    obtain ⟨rfl, c, hc, rfl⟩ := y
    show wipe ((wipe σ vs).set j (some (.str (sO [c])))) vs = wipe σ vs ∧ tb ((wipe σ vs).set j (some (.str (sO [c])))) H2 fun y H4 => ∃ acc, H4 D = some (.lst acc) ∧ acc.length < sizeLine ∧ Hs F B Y (G.c D (.lst ((a.take (i + 1)).map g)) :: L) (upd H4 D (.lst (acc ++ [y]))) Z
    refine ⟨hw _, he i c H2 hc p.tl _ ⟨(a.take i).map g, p.mem 0 rfl, sz2 (by rw [List.length_map, List.length_take]; omega), ?_⟩⟩
    rw [show (a.take (i + 1)).map g = (a.take i).map g ++ [g c] from by rw [List.take_add_one, hc, List.map_append]; rfl]
    exact p.wr 0 _ rfl) (fun H' p => k D H' (by rwa [List.take_length] at p))⟩
end
end G
namespace G
open PySem PySem.Spec PyProof.Rows L2
section
variable {F : Addr → Prop} {B Y H Z H' Z' : Hp} {L : List As} {p : Addr} {o : HO} {A : As} {K : PySem.W.Frag} {xs : List V} {ds : List PyData} {v : V} {d : PyData}
theorem Hs.fzZ (s : Hs F B Y L H Z) (i : Nat) (h : L[i]? = some (fz p o)) : Z p = some o := by
  obtain ⟨S, w, _⟩ := s.at i h; exact w
theorem Hs.sqZ (s : Hs F B Y L H Z) (i : Nat) (h : L[i]? = some (sq K p xs)) : SqL K Z p xs := by
  obtain ⟨S, w, _⟩ := s.at i h; exact w
theorem Hs.stZ (s : Hs F B Y L H Z) (i : Nat) (h : L[i]? = some (st K p xs)) : SqT K Z p xs := by
  obtain ⟨S, w, _⟩ := s.at i h; exact w
def pk (L : List As) (js : List Nat) : List As := js.filterMap fun i => L[i]?
def nodB : List Nat → Bool
  | [] => true
  | i :: r => !r.contains i && nodB r
theorem nodB_ok : ∀ {l : List Nat}, nodB l = true → l.Nodup
  | [], _ => List.nodup_nil
  | i :: r, h => by
    simp only [nodB, Bool.and_eq_true, Bool.not_eq_true'] at h
    refine List.nodup_cons.mpr ⟨fun hm => ?_, nodB_ok h.2⟩
    have := List.contains_iff_mem.mpr hm
    rw [h.1] at this; cases this
def okg (L : List As) (js rs : List Nat) : Bool := nodB js && nodB rs && js.all (fun i => (L[i]?).isSome) && rs.all (fun i => (L[i]?).isSome) && js.all (fun i => !rs.contains i || ((L[i]?).map As.per).getD false)
theorem pk_ok {L : List As} : ∀ {js : List Nat}, js.all (fun i => (L[i]?).isSome) = true → js.map (fun i => L[i]?) = (pk L js).map some
  | [], _ => rfl
  | i :: r, h => by
    simp only [List.all_cons, Bool.and_eq_true] at h
    cases e : L[i]? with
    | none => rw [e] at h; cases h.1
    | some A => simp only [pk, List.map_cons, List.filterMap_cons, e, pk_ok h.2]
theorem Hs.giv (s : Hs F B Y L H Z) (js rs : List Nat) (h : okg L js rs = true) : ∃ G, Hs G H Z (pk L js) H Z ∧ ∀ N H' Z', Hs G H Z N H' Z' → Hs F B Y (N ++ pk L rs) H' Z' := by
  simp only [okg, Bool.and_eq_true] at h
  obtain ⟨⟨⟨⟨h1, h2⟩, h3⟩, h4⟩, h5⟩ := h
  refine s.give js rs (nodB_ok h1) (nodB_ok h2) (fun i hi hr => ?_) _ _ (pk_ok h3) (pk_ok h4)
  have := List.all_eq_true.mp h5 i hi
  rw [List.contains_iff_mem.mpr hr] at this
  cases e : (L[i]?).map As.per with
  | none => rw [e] at this; cases this
  | some b =>
    rw [e] at this
    have e2 : b = true := by simpa using this
    rw [e2]
theorem Hs.giv1 (s : Hs F B Y L H Z) (js : List Nat) (h : okg L js [] = true) : ∃ (G : Addr → Prop) (Z' : Hp), Hs G H Z' (pk L js) H Z' := by
  obtain ⟨G, g, _⟩ := s.giv js [] h
  exact ⟨G, Z, g⟩
theorem dps_ints_eq : ∀ {ns : List Int} {vs : List V}, DpAll K Z vs (ns.map PyData.int) → vs = ns.map V.int
  | [], _, h => by cases h; rfl
  | n :: r, _, h => by
    cases h with
    | cons a b => rw [dp_int a, dps_ints_eq b]; rfl
theorem Hs.d2i {ns : List Int} (s : Hs F B Y L H Z) (i : Nat) (h : L[i]? = some (ld K p xs (ns.map PyData.int))) : Hs F B Y (L.set i (c p (.lst (ns.map V.int)))) H Z := by
  have e := dps_ints_eq (s.lds i h)
  exact s.as i _ _ h fun _ w => ⟨w.1, by rw [← e]; exact w.2.1⟩
end
end G
namespace G
open PySem PySem.Spec PyProof.Rows L2
section
variable {K : PySem.W.Frag} {σ σ' : L2.St} {H Z B Y : Hp} {F : Addr → Prop} {L : List As} {ta tb te : TE} {t : TT} {tz tu tw : TS} {D : Ends} {xs vs : List V} {ds : List PyData} {v w : V} {d e : PyData} {a p : Addr} {i : Int}
theorem s_join {x tz : TS} {D : Ends} {σ : L2.St} {H : Hp} (J : L2.St → Hp → Prop) (h1 : (∀ σ' H', J σ' H' → tz D σ' H') → tSeq x tz D σ H) (h2 : ∀ σ' H', J σ' H' → tz D σ' H') : tSeq x tz D σ H := h1 h2
theorem s_retN {tz : TS} (k : D.rt .non H) : tSeq tRetN tz D σ H := k
theorem s_pass {tz : TS} (k : tz D σ H) : tSeq tNext tz D σ H := k
theorem s_brk {tz tx : TS} {N C : L2.St → Hp → Prop} {R : VK} (k : tz D σ H) : tSeq tBreak tx { nx := N, rt := R, ct := C, bk := tz D } σ H := k
def kFld (K : PySem.W.Frag) (ta : TE) (f : Str) (tz : TS) (D : Ends) (σ : L2.St) : VK := fun y H1 => ta σ H1 fun x H2 => ∃ a C dx fs, x = .ref a ∧ H2 a = some (.ins C dx fs) ∧ Cls K C ∧ NoAttr K C f ∧ fs.length < 1000 ∧ tz D σ (upd H2 a (.ins C dx (putF f y fs)))
theorem c_fld {f : Str} {tz : TS} (k : tb σ H (kFld K ta f tz D σ)) : tSeq (sFld K ta tb f) tz D σ H := k
theorem k_fld {C dx : Addr} {f : Str} {fs : List (Str × V)} {tz : TS} (fs' : List (Str × V)) (ha : Val ta σ H (.ref a)) (ho : H a = some (.ins C dx fs)) (hc : Cls K C) (hn : NoAttr K C f) (hl : fs.length < 1000) (e : putF f v fs = fs')
    (k : tz D σ (upd H a (.ins C dx fs'))) : kFld K ta f tz D σ v H := ha _ ⟨a, C, dx, fs, rfl, ho, hc, hn, hl, by rw [e]; exact k⟩
theorem vmeth {C : Addr} {m : Str} {sp : Sp} {dvs : List V} {E : XK} {tr : TA} {dx : Addr} {fs : List (Str × V)} (h : Val ta σ H (.ref a)) (ho : H a = some (.ins C dx fs)) (hl : fs.lookup m = none) (hv : VA tr σ H vs) (k : ∀ Q : VK, Q v H → sp (.ref a :: (vs ++ dvs)) H Q E) : Val (tMeth C m sp dvs E ta tr) σ H v :=
  fun Q q => h _ ⟨a, dx, fs, rfl, ho, hl, hv _ (k Q q)⟩
theorem kQb2 {b : Bool} {P : Hp → Hp → Prop} (Q : VK) (k : ∀ H' Z', P H' Z' → Q (.bl (decide (b = true))) H') : ∀ H' Z', P H' Z' → Q (.bl b) H' := fun H' Z' h => by
  have := k H' Z' h
  rwa [show decide (b = true) = b from by cases b <;> rfl] at this
theorem c_notV {Q : VK} (k : ta σ H fun x H1 => ∃ c, x = .bl c ∧ Q (.bl (!c)) H1) : tNotV ta σ H Q := k
theorem r_isND {Q : VK} (hd : Dp K Z v d) (k : Q (.bl (decide (isN d = true))) H) : rIsN v .non H Q := ⟨rfl, by rw [dp_isN hd]; exact k⟩
theorem r_isNDn {Q : VK} (hd : Dp K Z v d) (k : Q (.bl (decide (¬ isN d = true))) H) : rNotN v .non H Q := ⟨rfl, by rw [dp_isN hd, dec_not]; exact k⟩
theorem r_eqB {a b : Bool} {Q : VK} (k : Q (.bl (decide (a = b))) H) : rEq (.bl a) (.bl b) H Q := ⟨rfl, by rw [dec_eq_V V.bl (fun _ _ e => V.bl.inj e)]; exact k⟩
theorem r_neB {a b : Bool} {Q : VK} (k : Q (.bl (decide (a ≠ b))) H) : rNe (.bl a) (.bl b) H Q := ⟨rfl, by rw [dec_eq_V V.bl (fun _ _ e => V.bl.inj e), dec_not]; exact k⟩
def cutG {α : Type} (a : List α) (lo hi : Int) : List α := (a.drop lo.toNat).take (hi.toNat - lo.toNat)
theorem dps_cut (h : DpAll K Z vs ds) (lo hi : Int) : DpAll K Z (cutG vs lo hi) (cutG ds lo hi) := dps_take (dps_drop h _) _
end
end G
namespace G
open PySem PySem.Spec PyProof.Rows L2
section
variable {K : PySem.W.Frag} {H : Hp} {xs ys : List V} {v : V} {a b l : Addr} {Q : VK}
theorem r_repT {k : Int} (h : H l = some (.tup [v])) (h0 : 2 ≤ k) (h1 : k ≤ 1000) (q : ∀ p, H p = none → Q (.ref p) (upd H p (.tup (List.replicate k.toNat v)))) : rRepT K (.ref l) (.int k) H Q :=
  ⟨l, k, [v], rfl, rfl, SqT.of h, by simp, h0, h1, by simp, fun p np => by rw [rep_one]; exact q p np⟩
theorem r_catT (h : SqT K H a xs) (h' : SqT K H b ys) (h0 : 0 < xs.length) (h1 : 0 < ys.length) (h2 : xs.length + ys.length ≤ 1000000) (q : ∀ p, H p = none → Q (.ref p) (upd H p (.tup (xs ++ ys)))) : rCatT K (.ref a) (.ref b) H Q :=
  ⟨a, b, xs, ys, rfl, rfl, h, h', fun e => by rw [e] at h0; exact Nat.lt_irrefl _ h0, sz1 h2, fun e => by rw [e] at h1; exact (Nat.lt_irrefl _ h1).elim, fun _ => q⟩
end
end G
namespace G
open PySem PySem.Spec PyProof.Rows L2
/-- None or an int -/
def optV : Option Int → V
  | none => .non
  | some n => .int n
theorem optV_non (f : Option Int) : decide (optV f = V.non) = decide (f = none) := by
  cases f with
  | none => simp [optV]
  | some n => simp [optV]
theorem visNO {σ : L2.St} {H : Hp} {ta : TE} {f : Option Int} (ha : Val ta σ H (optV f)) : Val (tOp rIsN ta (tC .non)) σ H (.bl (decide (f = none))) := by
  have := visN ha
  rw [optV_non] at this; exact this
theorem vnotNO {σ : L2.St} {H : Hp} {ta : TE} {f : Option Int} (ha : Val ta σ H (optV f)) : Val (tOp rNotN ta (tC .non)) σ H (.bl (decide (f ≠ none))) := by
  have := vnotN ha
  rw [show decide (optV f ≠ V.non) = decide (f ≠ none) from by rw [← dec_not, ← dec_not, optV_non]] at this; exact this
theorem dok_ints1 (ns : List Int) : nbls (ns.map PyData.int) = true := (nbls_all _).mpr fun d hd => by
  obtain ⟨i, _, rfl⟩ := List.mem_map.mp hd; rfl
theorem dok_of_list {n : Nat} {ds : List PyData} (h : ∀ d ∈ ds, dok n d = true) (hn : n ≤ 8) : dok 9 (.list ds) = true := dok_le (dok_list h) (by omega)
theorem dok_of_tuple {n : Nat} {ds : List PyData} (h : ∀ d ∈ ds, dok n d = true) (hn : n ≤ 8) : dok 9 (.tuple ds) = true := dok_le (dok_tuple h) (by omega)
theorem dok_dg {n : Nat} {ds : List PyData} (h : ∀ d ∈ ds, dok n d = true) (i : Int) : dok n (dg ds i) = true := by
  show dok n (ds.getD i.toNat .none) = true
  rw [List.getD_eq_getElem?_getD]
  cases e : ds[i.toNat]? with
  | none => exact dok_none n
  | some d => exact h d (List.mem_of_getElem? e)
theorem dok_set {n : Nat} {ds : List PyData} (h : ∀ d ∈ ds, dok n d = true) (i : Nat) {d : PyData} (hd : dok n d = true) : ∀ d' ∈ ds.set i d, dok n d' = true := fun d' hm => by
  rcases List.mem_or_eq_of_mem_set hm with z | z
  · exact h d' z
  · rw [z]; exact hd
theorem dok_rep {n : Nat} (m : Nat) {d : PyData} (hd : dok n d = true) : ∀ d' ∈ List.replicate m d, dok n d' = true := fun d' hm => by
  rw [List.eq_of_mem_replicate hm]; exact hd
theorem dok_9 {n : Nat} {d : PyData} (h : dok n d = true) (hn : n ≤ 9) : dok 9 d = true := dok_le h hn
end G
namespace G
open PySem PySem.Spec PyProof.Rows L2
theorem map_get {α β : Type} {f : α → β} {xs : List α} {i : Nat} {d : β} (h : (xs.map f)[i]? = some d) : ∃ w, xs[i]? = some w ∧ d = f w := by
  rw [List.getElem?_map] at h
  cases e : xs[i]? with
  | none => rw [e] at h; cases h
  | some n => rw [e] at h; exact ⟨n, rfl, (Option.some.inj h).symm⟩
theorem s_forLT {K : PySem.W.Frag} {σ : L2.St} {H : Hp} {te : TE} {g : TG} {tu tz : TS} {D : Ends} {a : Addr} {xs : List V} (h : Val te σ H (.ref a)) (hx : SqL K H a xs) (Pv : Nat → L2.St → Hp → Prop) (h0 : Pv 0 σ H) (hl : ∀ i σ' H', i ≤ xs.length → Pv i σ' H' → SqL K H' a xs)
    (hs : ∀ i x σ' H', xs[i]? = some x → Pv i σ' H' → g x σ' H' fun σ1 H1 => tu { D with nx := Pv (i + 1), ct := Pv (i + 1), bk := tz D } σ1 H1) (hd : ∀ σ' H', Pv xs.length σ' H' → tz D σ' H') : tSeq (tFor (iList K te) g tu) tz D σ H :=
  h _ ⟨a, rfl, ⟨xs, hx⟩, for_list Pv h0 hl hs hd⟩
end G
namespace G
open PySem PySem.Spec PyProof.Rows L2
theorem dg_set {ds : List PyData} {i : Int} {d : PyData} (h0 : 0 ≤ i) (h1 : i < (ds.length : Int)) : dg (ds.set i.toNat d) i = d := by
  show (ds.set i.toNat d).getD i.toNat .none = d
  rw [List.getD_eq_getElem?_getD, List.getElem?_set_self (by omega)]; rfl
theorem dg_at {K : PySem.W.Frag} {Z : Hp} {vs : List V} {ds : List PyData} {i : Int} {d : PyData} (h : DpAll K Z vs (ds.set i.toNat d)) (h0 : 0 ≤ i) (h1 : i < (ds.length : Int)) : Dp K Z (vg vs i) d := by
  have := dps_at h i
  rwa [dg_set h0 h1] at this
end G
namespace G
open PySem PySem.Spec PyProof.Rows L2
theorem s_forE {K : PySem.W.Frag} {σ : L2.St} {H : Hp} {te : TE} {g : TG} {tu tz : TS} {D : Ends} {a : Addr} {xs : List V} (h : Val te σ H (.ref a)) (hx : SqL K H a xs) (Pv : Nat → L2.St → Hp → Prop) (h0 : Pv 0 σ H) (hl : ∀ i σ' H', i ≤ xs.length → Pv i σ' H' → SqL K H' a xs)
    (hs : ∀ i x σ' H', xs[i]? = some x → Pv i σ' H' → ∀ T, H' T = none → g (.ref T) σ' (upd H' T (.tup [.int (i : Int), x])) fun σ1 H1 => tu { D with nx := Pv (i + 1), ct := Pv (i + 1), bk := tz D } σ1 H1) (hd : ∀ σ' H', Pv xs.length σ' H' → tz D σ' H') : tSeq (tFor (iEnum K (tCons te tNil)) g tu) tz D σ H :=
  h _ ⟨a, xs, rfl, hx, for_it walk_enum Pv h0 hl (fun i x σ1 H1 H2 hi p y => by
    obtain ⟨T, u, v, rfl, nT, rfl, e1, e2⟩ := y
    cases e1
    exact hs i v σ1 H1 e2 p T nT) hd⟩
theorem funK_mk {K : PySem.W.Frag} {x qual : Str} {st : Stmt} {kws : List (Str × V)} {f D : Addr} {oc : Value} {od an : Option Addr} {osl : Array (Option Value)} {doc pm cdv ct : Value} (l : K.lookup f = some ⟨oc, od, .func (PySem.W.fnOf x qual (defArgs st) (defBody st) (defScope st) .none (.ref D) doc pm an cdv ct), osl⟩)
    (c : PySem.W.codeIn K cdv qual = true) (k : PySem.W.keepIn K (.ref f) = true) (hq : ∀ q ∈ kws, ∃ u, PySem.W.nsIn K D q.1 = some (some u) ∧ RelV q.2 u) :
    FunD K x qual (defArgs st) (defBody st) (defScope st) [] kws f (PySem.W.fnOf x qual (defArgs st) (defBody st) (defScope st) .none (.ref D) doc pm an cdv ct) :=
  ⟨⟨oc, od, .none, .ref D, doc, pm, an, cdv, ct, osl, rfl, l, c, .inl ⟨rfl, rfl⟩, .inr ⟨D, rfl, hq⟩⟩, k⟩
end G
namespace G
open PySem PySem.Spec PyProof.Rows L2
theorem dps_map {K : PySem.W.Frag} {Z : Hp} {α : Type} {f : α → PyData} {vs : List V} {xs : List α} {i : Int} (df : α) (h : DpAll K Z vs (xs.map f)) (h0 : 0 ≤ i) (h1 : i < (xs.length : Int)) : Dp K Z (vg vs i) (f (xs.getD i.toNat df)) := by
  have := dps_at h i
  have e : dg (xs.map f) i = f (xs.getD i.toNat df) := by
    show (xs.map f).getD _ _ = _
    rw [List.getD_eq_getElem?_getD, List.getD_eq_getElem?_getD, List.getElem?_map, List.getElem?_eq_getElem (show i.toNat < xs.length by omega)]; rfl
  rwa [e] at this
end G
local macro_rules | `(tactic| walk_at "dok") => `(tactic| first | assumption | exact G.dok_int _ _ | exact G.dok_none _ | exact G.dok_9 (by assumption) (by omega) | exact G.dok_9 (G.dok_dg (by assumption) _) (by omega) | exact G.dok_of_list (by assumption) (by omega) | (simp only [G.dok, G.nbl, G.nbls, PySem.PyData.canLay0, PySem.PyData.canLayAll0, PySem.PyData.depth, PySem.PyData.depthAll, G.dok_ints1, G.lay_ints, G.dep_ints0]; rfl) | (simp [G.dok, G.nbl, G.nbls, PySem.PyData.canLay0, PySem.PyData.canLayAll0, PySem.PyData.depth, PySem.PyData.depthAll, G.dok_ints1, G.lay_ints, G.dep_ints0]; done) | walk_at "dok2")
local macro_rules | `(tactic| walk_at "shp") => `(tactic| first | exact G.dok_shp (n := 9) (by walk_at "dok") (by decide) | rfl | decide | (unfold PySem.SeqAt.shaped; simp [PySem.PyData.canLay0, PySem.PyData.canLayAll0, PySem.PyData.depth, PySem.PyData.depthAll, G.lay_ints, G.dep_ints0]; done) | exact G.shp_ints _)
local macro_rules | `(tactic| walk_at "finL") => `(tactic| first | rfl | (subst_vars; rfl) | (simp; done) | walk_at "finL2")

/-! ### comprehensions with a test, over lists, tuples and ranges of ints; insert; slices -/
namespace G
open PySem PySem.Spec PyProof.Rows L2
section
variable {K : PySem.W.Frag} {σ σ' : L2.St} {H : Hp} {ta tb te : TE} {tt : TT} {tz tu : TS} {D : Ends} 
theorem ans_yes : Ans tYes σ H True := fun _ q => q
/-! insert -/
abbrev rInsert : V → List V → Hp → VK → Prop := fun x vs H Q => ∃ (l : Addr) (xs : List V) (i : Int) (y : V), x = .ref l ∧ vs = [.int i, y] ∧ H l = some (.lst xs) ∧ xs.length < sizeLine ∧ 0 ≤ i ∧ i < 2 ^ 63 ∧
    Q .non (upd H l (.lst (xs.take i.toNat ++ [y] ++ xs.drop i.toNat)))
def insI (xs : List Int) (i n : Int) : List Int := xs.take i.toNat ++ [n] ++ xs.drop i.toNat
theorem s_insI {l : Addr} {xs : List Int} {n i : Int} (hl : H l = some (.lst (xs.map V.int))) (ha : Val ta σ H (.ref l)) (hi : Val tb σ H (.int i)) (h : Val te σ H (.int n)) (hz : xs.length < 1000000) (h0 : 0 ≤ i) (h1 : i < 2 ^ 62) (k : tz D σ (upd H l (.lst ((insI xs i n).map V.int)))) :
    tSeq (tDrop (tBM K "list" rInsert ta (tCons tb (tCons te tNil)))) tz D σ H := ha _ ⟨Or.inl ⟨rfl, xs.map V.int, SqL.of hl⟩, hi _ (h _ ⟨l, xs.map V.int, i, .int n, rfl, rfl, hl, by rw [List.length_map]; exact sz2 hz, h0, by omega, by
      show tz D σ (upd H l (.lst ((xs.map V.int).take i.toNat ++ [V.int n] ++ (xs.map V.int).drop i.toNat)))
      rw [insI, List.map_append, List.map_append, List.map_take, List.map_drop] at k; exact k⟩)⟩
/-! slices -/
def VP (tp : TO) (σ : L2.St) (H : Hp) (o : Option Int) : Prop := ∀ Q : Option Int → Hp → Prop, Q o H → tp σ H Q
theorem vp0 : VP tNoPart σ H none := fun _ q => q
theorem vp1 {i : Int} (h : Val te σ H (.int i)) : VP (tPart te) σ H (some i) := fun Q q => h _ ⟨i, rfl, q⟩
def cutN (a : List Nat) (lo hi : Int) : List Nat := (a.drop lo.toNat).take (hi.toNat - lo.toNat)
def cutI (a : List Int) (lo hi : Int) : List Int := (a.drop lo.toNat).take (hi.toNat - lo.toNat)
def pLo : Option Int → Int := fun o => o.getD 0
def pHi (n : Nat) : Option Int → Int := fun o => o.getD n
theorem sIx_lo {n : Nat} {o : Option Int} (h0 : 0 ≤ pLo o) (h1 : pLo o ≤ (n : Int)) : HT.sIx n 0 o = (pLo o).toNat := by
  cases o with
  | none => rfl
  | some i =>
    show (if i < 0 then (i + (n : Int)).toNat else min i.toNat n) = i.toNat
    have h0' : 0 ≤ i := h0
    have h1' : i ≤ (n : Int) := h1
    rw [if_neg (by omega)]; omega
theorem sIx_hi {n : Nat} {o : Option Int} (h0 : 0 ≤ pHi n o) (h1 : pHi n o ≤ (n : Int)) : HT.sIx n n o = (pHi n o).toNat := by
  cases o with
  | none => show n = ((n : Nat) : Int).toNat; omega
  | some i =>
    show (if i < 0 then (i + (n : Int)).toNat else min i.toNat n) = i.toNat
    have h0' : 0 ≤ i := h0
    have h1' : i ≤ (n : Int) := h1
    rw [if_neg (by omega)]; omega
theorem cutS_sO {a : List Nat} {lo hi : Option Int} (h0 : 0 ≤ pLo lo) (h1 : pLo lo ≤ (a.length : Int)) (h2 : 0 ≤ pHi a.length hi) (h3 : pHi a.length hi ≤ (a.length : Int)) : cutS (sO a) lo hi = sO (cutN a (pLo lo) (pHi a.length hi)) := by
  unfold cutS cutN
  rw [sO_len, sIx_lo h0 h1, sIx_hi h2 h3]
  rfl
theorem cutV_ints {a : List Int} {lo hi : Option Int} (h0 : 0 ≤ pLo lo) (h1 : pLo lo ≤ (a.length : Int)) (h2 : 0 ≤ pHi a.length hi) (h3 : pHi a.length hi ≤ (a.length : Int)) : cutV (a.map V.int) lo hi = (cutI a (pLo lo) (pHi a.length hi)).map V.int := by
  unfold cutV cutI
  rw [List.length_map, sIx_lo h0 h1, sIx_hi h2 h3, List.map_take, List.map_drop]
theorem vslS {tl th : TO} {a : List Nat} {lo hi : Option Int} (ha : Val te σ H (.str (sO a))) (hl : VP tl σ H lo) (hh : VP th σ H hi) (hs : a.length ≤ 1000000) (h0 : 0 ≤ pLo lo) (h1 : pLo lo ≤ (a.length : Int)) (h2 : 0 ≤ pHi a.length hi) (h3 : pHi a.length hi ≤ (a.length : Int)) :
    Val (tSl rSlS te tl th) σ H (.str (sO (cutN a (pLo lo) (pHi a.length hi)))) := fun Q q => ha _ (hl _ (hh _ ⟨sO a, rfl, by rw [sO_len]; exact sz1 hs, by rw [cutS_sO h0 h1 h2 h3]; exact q⟩))
theorem r_slL {a : Addr} {xs : List Int} {lo hi : Option Int} {Q : VK} (hq : SqL K H a (xs.map V.int)) (h0 : 0 ≤ pLo lo) (h1 : pLo lo ≤ (xs.length : Int)) (h2 : 0 ≤ pHi xs.length hi) (h3 : pHi xs.length hi ≤ (xs.length : Int))
    (k : ∀ p, H p = none → Q (.ref p) (upd H p (.lst ((cutI xs (pLo lo) (pHi xs.length hi)).map V.int)))) : rSlL K (.ref a) lo hi H Q := ⟨a, _, rfl, hq, fun p np => by rw [cutV_ints h0 h1 h2 h3]; exact k p np⟩
end
end G
namespace G
open PySem PySem.Spec PyProof.Rows L2
theorem vin {K : PySem.W.Frag} {σ : L2.St} {H : Hp} {ta tb : TE} {ns : List Int} {i : Int} {p : Addr} (h : SqL K H p (ns.map V.int) ∨ SqT K H p (ns.map V.int)) (ha : Val ta σ H (.int i)) (hb : Val tb σ H (.ref p)) : Val (tOp (rIn K false) ta tb) σ H (.bl (decide (i ∈ ns))) := fun _ q => ha _ (hb _ (r_in h q))
theorem r_eqI {H : Hp} {a b : Int} {Q : VK} (k : Q (.bl (decide (a = b))) H) : rEq (.int a) (.int b) H Q := ⟨rfl, by rw [dec_eq_V V.int (fun _ _ e => V.int.inj e)]; exact k⟩
theorem r_neI {H : Hp} {a b : Int} {Q : VK} (k : Q (.bl (decide (a ≠ b))) H) : rNe (.int a) (.int b) H Q := ⟨rfl, by rw [dec_eq_V V.int (fun _ _ e => V.int.inj e), dec_not]; exact k⟩
theorem vnin {K : PySem.W.Frag} {σ : L2.St} {H : Hp} {ta tb : TE} {ns : List Int} {i : Int} {p : Addr} (h : SqL K H p (ns.map V.int) ∨ SqT K H p (ns.map V.int)) (ha : Val ta σ H (.int i)) (hb : Val tb σ H (.ref p)) : Val (tOp (rIn K true) ta tb) σ H (.bl (decide (¬ (i ∈ ns)))) := fun _ q => ha _ (hb _ (r_notin h q))
end G

local macro_rules | `(tactic| walk_at "side2") => `(tactic| first | (simp [G.cutN, G.rgI_len]; done) | (simp [G.cutN, G.rgI_len]; omega))

/-! ### reversed lists, list + list, any of ints, equality of lists of ints, defs with defaults -/
namespace G
open PySem PySem.Spec PyProof.Rows L2
section
variable {K : PySem.W.Frag} {σ σ' : L2.St} {H : Hp} {ta tb te : TE} {tz tu : TS} {D : Ends}
theorem s_forV {a : Addr} {xs : List V} {n : Nat} (h : Val te σ H (.ref a)) (hx : SqL K H a xs) (Pv : Nat → L2.St → Hp → Prop) (h0 : Pv 0 σ H) (hl : ∀ i σ' H', i ≤ xs.length → Pv i σ' H' → SqL K H' a xs)
    (hs : ∀ i x σ' H', i < xs.length → xs[xs.length - 1 - i]? = some x → Pv i σ' H' → tu { D with nx := Pv (i + 1), ct := Pv (i + 1), bk := tz D } (σ'.set n (some x)) H') (hd : ∀ σ' H', Pv xs.length σ' H' → tz D σ' H') : tSeq (tFor (RT.iRevA K te) (gName n) tu) tz D σ H :=
  h _ ⟨a, xs, rfl, .inl ⟨hx, for_it walk_rev Pv h0 hl (fun i x σ1 H1 H2 hi p y => by
    obtain ⟨rfl, y⟩ := y
    exact hs i x σ1 H2 hi y p) hd⟩⟩
theorem c_cat {l b : Addr} {xs zs : List V} {Q : VK} (hl : H l = some (.lst xs)) (hb : H b = some (.lst zs)) (hz : xs.length + zs.length ≤ 1000000) (k : ∀ p, H p = none → Q (.ref p) (upd H p (.lst (xs ++ zs)))) : rCat (.ref l) (.ref b) H Q := ⟨l, b, xs, zs, rfl, rfl, hl, hb, sz1 hz, k⟩
theorem ints_at {its : List Value} {ns : List Int} (e : IntsAre its ns) : ∀ {i : Nat} {v : Value}, its[i]? = some v → ∃ t, v = .int (ns.getD i 0) t := by
  induction e with
  | nil => exact fun {_ _} h => nomatch h
  | cons n t _ ih =>
    rintro (_ | j) v h
    · cases h; exact ⟨t, rfl⟩
    · exact ih (by simpa using h)
theorem truth_ints {prog : Program} {w : World} {A : Around} {ns : List Int} {its : List Value} (e : IntsAre its ns) :
    TruthOf prog w A (fun i v => its.toArray[i]? = some v) (fun i => ns.getD i 0 != 0) := by
  intro i v s Q E there q
  have ⟨t, ev⟩ := ints_at e (i := i) (v := v) (by rw [← there]; simp)
  subst ev
  exact PyProof.Rows.truthy_int q
def anyN (ns : List Int) : Bool := ns.any fun n => n != 0
theorem any_rangeI : ∀ ns : List Int, (List.range ns.length).any (fun i => ns.getD i 0 != 0) = anyN ns
  | [] => rfl
  | b :: bs => by
    unfold anyN
    rw [List.length_cons, List.range_succ_eq_map, List.any_cons, List.any_map, List.any_cons, ← anyN, ← any_rangeI bs]
    all_goals rfl
def rAnyI (K : PySem.W.Frag) : List V → Hp → VK → Prop := fun vs H Q => ∃ (a : Addr) (ns : List Int), vs = [V.ref a] ∧ SqL K H a (ns.map V.int) ∧ Q (.bl (anyN ns)) H
theorem ia_len {its : List Value} {ns : List Int} (h : IntsAre its ns) : its.length = ns.length := by
  induction h with
  | nil => rfl
  | cons n t h ih => rw [List.length_cons, List.length_cons, ih]
theorem cr_anyI {X : Cx} (hc : X.calm = true) : CallR X (.builtin "any") (rAnyI X.K) := by
  rintro pins s σ H vs us Q I r ⟨a, ns, rfl, hs, q⟩
  rw [Vals.ref1 r]
  have ⟨its, rv, hl, _⟩ := I.list hs
  have nsv := Vals.ints rv
  have same : (List.range its.toArray.size).any (fun i => ns.getD i 0 != 0) = anyN ns := by rw [List.size_toArray, ia_len nsv, any_rangeI]
  apply call_any_walk
  apply iter_any hl.isList
  rintro _ rfl st fresh
  refine ⟨_, _, _, _, _, _, _, rfl, Walks.list (A := X.A.in1) (I.ok.hd hc) _ a fresh its.toArray, st, truth_ints nsv, fun h' tk keeps => ⟨.bl (anyN ns), H, ?_, congrArg Value.bool same, q⟩⟩
  apply I.kept
  intro b o there
  apply keeps b o ?_ (Heap.get?_push_of_some _ there)
  intro hit
  rw [List.mem_singleton.mp hit] at there
  exact Nat.lt_irrefl _ (Heap.lt_size there)
theorem eqvA_ints : ∀ a b : List Int, PyData.eqvAll (a.map PyData.int) (b.map PyData.int) = decide (a = b)
  | [], [] => by rw [List.map_nil, PyData.eqvAll]; rfl
  | [], _ :: _ => by rw [List.map_nil, List.map_cons, PyData.eqvAll]; rfl
  | _ :: _, [] => by rw [List.map_nil, List.map_cons, PyData.eqvAll]; rfl
  | x :: a, y :: b => by
    have e : PyData.eqv (.int x) (.int y) = (x == y) := by simp only [PyData.eqv]
    rw [List.map_cons, List.map_cons, PyData.eqvAll, e, eqvA_ints a b]
    by_cases h1 : x = y
    · by_cases h2 : a = b
      · simp [h1, h2]
      · simp [h1, h2]
    · simp [h1]
theorem eqvL_ints (a b : List Int) : PyData.eqv (.list (a.map PyData.int)) (.list (b.map PyData.int)) = decide (a = b) := by
  simp only [PyData.eqv]; exact eqvA_ints a b
theorem eqvT_ints (a b : List Int) : PyData.eqv (.tuple (a.map PyData.int)) (.tuple (b.map PyData.int)) = decide (a = b) := by
  simp only [PyData.eqv]; exact eqvA_ints a b
end
/-- what a def's body has to do -/
abbrev BodyOk (P : Program) (w : World) (K : PySem.W.Frag) (mg : Str → Option Value) (base : Heap) (N : List Str) (qual : Str) (st : Stmt) (f : Addr) (k : Nat) (sp : Sp) : Prop :=
  ∀ (cd : Value) (A : Around) (out : List Env) (s : Shared) (H : Hp) (vs : List V) (Q : VK) (E : XK), Room k (A.deeper (envOfC qual (defScope st) s.heap.objs.size f cd)) → sp vs H Q E →
    ∃ t, PSs (cxOf CX0 P w K mg base N qual (defScope st) f cd A out s H E).nox (defBody st) t ∧ t { nx := fun _ => Q .non, rt := Q } (start N vs) H
theorem okD {P : Program} {w : World} {K : PySem.W.Frag} {mg : Str → Option Value} {base : Heap} {x qual : Str} {st : Stmt} {dvs : List V} {kws : List (Str × V)} {f : Addr} {fd : FuncData} {N ps : List Str} {k : Nat} {sp : Sp} (F : FunD K x qual (defArgs st) (defBody st) (defScope st) dvs kws f fd) (S : FnScope N ps (defScope st)) (len : ∀ vs H Q E, sp vs H Q E → vs.length = ps.length)
    (hb : BodyOk P w K mg base N qual st f k sp) : FnOk P w K mg base CX0 (k + 1) f fd ps sp := by
  apply F.ok S len
  intro cd A out s H vs Q E room asked
  exact (hb cd A out s H vs Q E room asked).imp fun _ p => ⟨p.1.nox, p.2⟩
theorem funD_mk {K : PySem.W.Frag} {x qual : Str} {st : Stmt} {dvs : List V} {its : List Value} {n : Nat} {T f : Addr} {oc tc : Value} {od an td : Option Addr} {osl tsl : Array (Option Value)} {kV doc pm cdv ct : Value} (l : K.lookup f = some ⟨oc, od, .func (PySem.W.fnOf x qual (defArgs st) (defBody st) (defScope st) (.ref T) kV doc pm an cdv ct), osl⟩)
    (c : PySem.W.codeIn K cdv qual = true) (k : PySem.W.keepIn K (.ref f) = true) (lT : K.lookup T = some ⟨tc, td, .seq its.toArray n, tsl⟩) (hd : dvs ≠ []) (hv : Vals dvs its) :
    FunD K x qual (defArgs st) (defBody st) (defScope st) dvs [] f (PySem.W.fnOf x qual (defArgs st) (defBody st) (defScope st) (.ref T) kV doc pm an cdv ct) :=
  ⟨⟨oc, od, .ref T, kV, doc, pm, an, cdv, ct, osl, rfl, l, c, .inr ⟨hd, T, _, its, n, rfl, lT, rfl, hv⟩, .inl rfl⟩, k⟩
theorem c_prop {C : Addr} {sp : Sp} {dvs : List V} {E : XK} {ta : TE} {σ : L2.St} {H : Hp} {a dx : Addr} {fs : List (Str × V)} {Q : VK} (h : Val ta σ H (.ref a)) (ho : H a = some (.ins C dx fs)) (k : sp (.ref a :: dvs) H Q E) : tProp C sp dvs E ta σ H Q := h _ ⟨a, dx, fs, rfl, ho, k⟩
end G
namespace G
open PySem PySem.Spec PyProof.Rows L2
theorem shp_intsT (ns : List Int) : SeqAt.shaped (.tuple (ns.map PyData.int)) = true := by
  unfold SeqAt.shaped
  refine Bool.and_eq_true_iff.mpr ⟨lay_ints ns, decide_eq_true ?_⟩
  have := dep_ints ns
  show _ ≤ 64
  simp only [PyData.depth]
  omega
theorem c_makeN {C : Addr} {n m : Nat} {sp : Sp} {gV : List V → List V → List V} {E : XK} {t tk : TA} {σ : L2.St} {H : Hp} {Q : VK} (k : t σ H fun vs H1 => tk σ H1 fun zs H2 => vs.length = n ∧ zs.length = m ∧
  ∀ x dx, H2 x = none → H2 dx = none → dx ≠ x → sp (gV (.ref x :: vs) zs) (upd (upd H2 dx (.own x)) x (.ins C dx [])) (fun v H3 => v = .non ∧ Q (.ref x) H3) E) : tMakeN C n m sp gV E t tk σ H Q := k
end G
local macro_rules | `(tactic| walk_at "shp") => `(tactic| first | exact G.shp_ints _ | exact G.shp_intsT _)
namespace G
open PySem PySem.Spec PyProof.Rows L2
def UnrL (tu : TS) (D : Ends) (tz : TS) (j : Nat) (lo : Int) : Nat → Nat → L2.St → Hp → Prop
  | 0, _, σ, H => tz D σ H
  | m + 1, i, σ, H => tu { D with nx := UnrL tu D tz j lo m (i + 1), ct := UnrL tu D tz j lo m (i + 1), bk := tz D } (σ.set j (some (.int (lo + (i : Int))))) H
theorem s_unrR2 {tr : TA} {tu tz : TS} {D : Ends} {σ : L2.St} {H : Hp} {n j : Nat} {lo m : Int} (h : VA tr σ H [.int lo, .int m]) (hn : (m - lo).toNat = n) (h1 : -1000 ≤ lo ∧ lo < 1000 ∧ -1000 ≤ m ∧ m < 1000) (_ : n < 2000) (k : UnrL tu D tz j lo n 0 σ H) : tSeq (tFor (iRng2 tr) (gName j) tu) tz D σ H :=
  s_forR2 h ⟨by omega, by omega, by omega, by omega⟩ (fun i σ H => UnrL tu D tz j lo (n - i) i σ H) (by exact k) (fun i σ' H' hi p => by
    have e : n - i = (n - (i + 1)) + 1 := by omega
    rw [e] at p
    exact p) (fun σ' H' p => by
    rw [show n - (m - lo).toNat = 0 by omega] at p
    exact p)
theorem u_doneL {tu tz : TS} {D : Ends} {σ : L2.St} {H : Hp} {lo : Int} {j i : Nat} (k : tz D σ H) : UnrL tu D tz j lo 0 i σ H := k
theorem u_nextL {tu tz : TS} {D : Ends} {σ : L2.St} {H : Hp} {lo : Int} {j m i : Nat} (k : tu { D with nx := UnrL tu D tz j lo m (i + 1), ct := UnrL tu D tz j lo m (i + 1), bk := tz D } (σ.set j (some (.int (lo + (i : Int))))) H) : UnrL tu D tz j lo (m + 1) i σ H := k
end G
namespace G
open PySem PySem.Spec PyProof.Rows L2
def kForL (K : PySem.W.Frag) (g : TG) (tu tz : TS) (D : Ends) (σ : L2.St) : VK := fun x H1 => tSeq (tFor (iList K (tC x)) g tu) tz D σ H1
theorem c_forL {K : PySem.W.Frag} {g : TG} {tu tz : TS} {D : Ends} {σ : L2.St} {H : Hp} {te : TE} (k : te σ H (kForL K g tu tz D σ)) : tSeq (tFor (iList K te) g tu) tz D σ H := k
theorem k_forL {K : PySem.W.Frag} {g : TG} {tu tz : TS} {D : Ends} {σ : L2.St} {H : Hp} {x : V} (k : tSeq (tFor (iList K (tC x)) g tu) tz D σ H) : kForL K g tu tz D σ x H := k
end G
theorem G.cat_eq {xs ys : List L2.V} {a b : List Int} (h1 : xs = a.map L2.V.int) (h2 : ys = b.map L2.V.int) : L2.HO.lst (xs ++ ys) = L2.HO.lst ((a ++ b).map L2.V.int) := by
  rw [List.map_append, h1, h2]
namespace G
open PySem PySem.Spec PyProof.Rows L2
theorem vintP {σ : L2.St} {H : Hp} {ta : TE} {p : Prop} [Decidable p] (ha : Val ta σ H (.bl (decide p))) : Val (tCB rInt1 (tCons ta tNil)) σ H (.int (if p then 1 else 0)) := by
  have := vintb ha
  by_cases hp : p
  · rw [decide_eq_true hp] at this; rw [if_pos hp]; exact this
  · rw [decide_eq_false hp] at this; rw [if_neg hp]; exact this
end G

/-! ### loops and comprehensions over a short known list, turn by turn -/
namespace G
open PySem PySem.Spec PyProof.Rows L2
section
variable {K : PySem.W.Frag} {σ : L2.St} {H : Hp} {te tb : TE} {tu tz : TS} {D : Ends} {t : TT}
def UnrV (K : PySem.W.Frag) (a : Addr) (al : List V) (tu : TS) (D : Ends) (tz : TS) (j : Nat) : List V → L2.St → Hp → Prop
  | [], σ, H => SqL K H a al ∧ tz D σ H
  | x :: r, σ, H => SqL K H a al ∧ tu { D with nx := UnrV K a al tu D tz j r, ct := UnrV K a al tu D tz j r, bk := tz D } (σ.set j (some x)) H
theorem UnrV.sq {a : Addr} {al : List V} {j : Nat} : ∀ {l : List V} {σ : L2.St} {H : Hp}, UnrV K a al tu D tz j l σ H → SqL K H a al
  | [], _, _, h => h.1
  | _ :: _, _, _, h => h.1
theorem drop_at {α : Type} {xs : List α} {i : Nat} {x : α} (h : xs[i]? = some x) : xs.drop i = x :: xs.drop (i + 1) := by
  obtain ⟨hl, e⟩ := List.getElem?_eq_some_iff.mp h
  rw [List.drop_eq_getElem_cons hl, e]
theorem s_unrV {a : Addr} {xs : List V} {n : Nat} (h : Val te σ H (.ref a)) (hx : SqL K H a xs) (k : UnrV K a xs tu D tz n xs σ H) : tSeq (tFor (iList K te) (gName n) tu) tz D σ H :=
  s_forL h hx (fun i σ H => UnrV K a xs tu D tz n (xs.drop i) σ H) k (fun i σ' H' _ p => UnrV.sq p) (fun i x σ' H' hx p => by
    rw [drop_at hx] at p
    exact p.2) (fun σ' H' p => by
    rw [List.drop_length] at p
    exact p.2)
theorem u_doneV {a : Addr} {al : List V} {j : Nat} (hx : SqL K H a al) (k : tz D σ H) : UnrV K a al tu D tz j [] σ H := ⟨hx, k⟩
theorem u_nextV {a : Addr} {al : List V} {j : Nat} {x : V} {r : List V} (hx : SqL K H a al) (k : tu { D with nx := UnrV K a al tu D tz j r, ct := UnrV K a al tu D tz j r, bk := tz D } (σ.set j (some x)) H) : UnrV K a al tu D tz j (x :: r) σ H := ⟨hx, k⟩
def LcV (K : PySem.W.Frag) (a : Addr) (al : List V) (tb : TE) (j : Nat) (vs : List Nat) (σ : L2.St) (D : Addr) (Q : VK) : List V → Hp → Prop
  | [], H => SqL K H a al ∧ Q (.ref D) H
  | x :: r, H => SqL K H a al ∧ wipe ((wipe σ vs).set j (some x)) vs = wipe σ vs ∧ tb ((wipe σ vs).set j (some x)) H fun y H4 => ∃ acc, H4 D = some (.lst acc) ∧ acc.length < sizeLine ∧ LcV K a al tb j vs σ D Q r (upd H4 D (.lst (acc ++ [y])))
theorem LcV.sq {a : Addr} {al : List V} {j : Nat} {vs : List Nat} {D : Addr} {Q : VK} : ∀ {l : List V} {H : Hp}, LcV K a al tb j vs σ D Q l H → SqL K H a al
  | [], _, h => h.1
  | _ :: _, _, h => h.1
theorem c_lcU {a : Addr} {xs : List V} {j : Nat} {vs : List Nat} {Q : VK} (h : Val te σ H (.ref a)) (hx : SqL K H a xs) (k : ∀ D, H D = none → LcV K a xs tb j vs σ D Q xs (upd H D (.lst []))) : tLc (iList K te) (gName j) tYes tb vs σ H Q :=
  h _ ⟨a, rfl, ⟨xs, hx⟩, fun D hD => lc_list (xs := xs) (fun i H' => LcV K a xs tb j vs σ D Q (xs.drop i) H') (k D hD) (fun i H' _ p => LcV.sq p) (fun i x H' hx p => by
    rw [drop_at hx] at p
    exact p.2) (fun H' p => by
    rw [List.drop_length] at p
    exact p.2)⟩
theorem call_list_ofK {X : Cx} {K : PySem.W.Frag} (e : X.K = K) : CallR X (.type "list") (fun xs H Q => ∃ p ys, xs = [.ref p] ∧ (SqL K H p ys ∨ SqT K H p ys) ∧ ∀ l, H l = none → Q (.ref l) (upd H l (.lst ys))) := e ▸ call_list_of
theorem nn_ref {p : Addr} (h : ¬ (V.ref p ≠ V.non)) : False := h fun z => nomatch z
theorem nn_eq {p : Addr} (h : V.ref p = V.non) : False := nomatch h
theorem c_ifx {Q : VK} (k : t σ H fun c H1 => if c = true then te σ H1 Q else tb σ H1 Q) : tIf t te tb σ H Q := k
end
end G
local macro_rules | `(tactic| walk_at "dead") => `(tactic| first | exact G.nn_ref (by assumption) | exact G.nn_eq (by assumption))
namespace G
open PySem PySem.Spec PyProof.Rows L2
theorem c_meth {C : Addr} {m : Str} {sp : Sp} {dvs : List V} {E : XK} {ta : TE} {t : TA} {σ : L2.St} {H : Hp} {Q : VK} {a dx : Addr} {fs : List (Str × V)} (h : Val ta σ H (.ref a)) (ho : H a = some (.ins C dx fs)) (hl : fs.lookup m = none) (k : t σ H fun vs H2 => sp (.ref a :: (vs ++ dvs)) H2 Q E) : tMeth C m sp dvs E ta t σ H Q := h _ ⟨a, dx, fs, rfl, ho, hl, k⟩
theorem s_while {t : TT} {tu tz : TS} {D : Ends} {σ : L2.St} {H : Hp} (Pv : Nat → L2.St → Hp → Prop) (m0 : Nat) (h0 : Pv m0 σ H)
    (hs : ∀ m σ H, Pv m σ H → t σ H fun b H1 => if b = true then ∃ N : L2.St → Hp → Prop, (∀ σ' H', N σ' H' → ∃ m', m' < m ∧ Pv m' σ' H') ∧ tu { D with nx := N, ct := N, bk := tz D } σ H1 else tz D σ H1) : tSeq (tWhile t tu) tz D σ H := ⟨Pv, ⟨m0, h0⟩, hs⟩
end G
namespace G
open PySem PySem.Spec PyProof.Rows L2
theorem s_raise {C : Addr} {E : XK} {tz : TS} {D : Ends} {σ : L2.St} {H : Hp} (k : E (.ref C) none H) : tSeq (fun _ σ H => (fun (_ : L2.St) (H : Hp) (Q : XK) => Q (.ref C) none H) σ H fun cls d H' => (fun cls d (_ : L2.St) H => E cls d H) cls d σ H') tz D σ H := k
end G

/-! ### methods with keywords -/
namespace G
open PySem PySem.Spec PyProof.Rows L2
theorem vals_app {vs zs : List V} {us ws : List Value} (r : Vals vs us) (q : Vals zs ws) : Vals (vs ++ zs) (us ++ ws) := by
  induction r with
  | nil => exact q
  | cons a _ ih => exact .cons a ih
theorem funD_kb0 {K : PySem.W.Frag} {x qual : Str} {params : Arguments} {body : List Stmt} {scope : Scope} {kws : List (Str × V)} {f : Addr} {fd : FuncData} {ps : List Str} (F : FunD K x qual params body scope [] kws f fd) (n : Nat) (ks : List Str)
    (h : ∀ (kV doc pm : Value) (an : Option Addr) (cdv ct : Value) (us ws : List Value), us.length = n → ws.length = ks.length → bindArgs (PySem.W.fnOf x qual params body scope .none kV doc pm an cdv ct) ⟨us, ks.zip ws⟩ = pure (ps.zip (us ++ ws))) :
    KBn K fd ps n ks (fun us ws => us ++ ws) (fun vs zs => vs ++ zs) := by
  have ⟨_, _, _, kV, dc, mo, no, cv, tp, _, isfd, _, _, dflt, _⟩ := F.ex
  cases dflt with
  | inr z => exact (z.1 rfl).elim
  | inl z =>
    have none_ := z.2
    subst none_
    subst isfd
    exact ⟨fun s us ws X n1 n2 => BindsTo.of_looks fun _ => (h kV dc mo no cv tp us ws n1 n2).symm ▸ .of_pure rfl, vals_app⟩
def tMethN (C : Addr) (m : Str) (n k : Nat) (sp : Sp) (gV : List V → List V → List V) (E : XK) (ta : TE) (t tk : TA) : TE := fun σ H Q => ta σ H fun x H1 => ∃ a dx fs, x = .ref a ∧ H1 a = some (.ins C dx fs) ∧ fs.lookup m = none ∧
  t σ H1 fun vs H2 => tk σ H2 fun zs H3 => vs.length = n ∧ zs.length = k ∧ sp (gV (x :: vs) zs) H3 Q E
section
variable {X : Cx} {CX : CXT} {k n : Nat} {f C : Addr} {fd : FuncData} {ps ks : List Str} {sp : Sp} {E : XK} {m : Str} {pos apos : Pos} {o e : Expr} {es : List Expr} {kws : List Keyword} {ta : TE} {t tk : TA} {g : List Value → List Value → List Value} {gV : List V → List V → List V}
theorem pe_methN {pl : Sem Bool} (he : PE X o ta) (c : Cls X.K C) (hm : Meth X.K C m f) (F : FnOk X.prog X.w X.K X.mg X.base CX k f fd ps sp) (hr : Room k X.A) (hb : KBn X.K fd ps (n + 1) ks g gV) (hx : Passes CX X E) (ha : PA X (e :: es) t) (hkw : PK X kws tk)
    (hall : (backToKw pos (keywordEach kws X.env)).all (·.1.isSome) = true := by rfl) (hks : (backToKw pos (keywordEach kws X.env)).filterMap (·.1) = ks := by rfl)
    (hst : starEach (e :: es) X.env = (false, eval e X.env) :: starEach es X.env := by rfl) (hpl : ((backTo pos (starEach (e :: es) X.env)).any (·.1) || (backToKw pos (keywordEach kws X.env)).any (·.1.isNone)) = false := by rfl)
    (ht : eval (.Call (.Attribute o m apos) (e :: es) kws pos) X.env =
      (eval o X.env >>= fun w => standAt apos.atName >>= fun _ => holding [w] (getMethod w m pl) >>= fun q => callWith pos q.1 q.2 (backTo pos (starEach (e :: es) X.env)) (backToKw pos (keywordEach kws X.env))) := by rfl) :
    PE X (.Call (.Attribute o m apos) (e :: es) kws pos) (tMethN C m n ks.length sp gV E ta t tk) where
  run pins s σ H Q I h := by
    apply PySem.W.methodCall_KW (pl := pl) (he := ht)
    apply thn (he.run pins s σ H _ I h)
    rintro u s1 ⟨_, H1, I1, rx, a, dx, fs, rfl, ea, nf, q⟩
    have eu : u = .ref a := rx
    subst eu
    apply getmeth_ok I1 ea c hm nf
    apply PySem.W.callWith_KW (first := [.ref a]) (h₀ := X.base) I.ok.mod.kin hm.kp hall ?_ hpl hst
    apply thn (ha.run pos pins s1 σ H1 _ I1 q)
    rintro us s2 ⟨vs, H2, I2, rv, q2⟩
    apply thn (hkw.run pos pins s2 σ H2 _ I2 q2)
    rintro ws s3 ⟨zs, H3, I3, rz, n1, n2, q3⟩
    rw [hks]
    exact ⟨I3.kIn, run_fnN (us := .ref a :: us) (vs := .ref a :: vs) F hr hb hx I3 (.cons rfl rv) rz (congrArg Nat.succ n1) n2 q3⟩
theorem c_methN {σ : L2.St} {H : Hp} {Q : VK} {a dx : Addr} {fs : List (Str × V)} {q : Nat} (h : Val ta σ H (.ref a)) (ho : H a = some (.ins C dx fs)) (hl : fs.lookup m = none) (k : t σ H fun vs H2 => tk σ H2 fun zs H3 => vs.length = n ∧ zs.length = q ∧ sp (gV (.ref a :: vs) zs) H3 Q E) : tMethN C m n q sp gV E ta t tk σ H Q := h _ ⟨a, dx, fs, rfl, ho, hl, k⟩
theorem c_callN {σ : L2.St} {H : Hp} {Q : VK} {q : Nat} (k : t σ H fun vs H1 => tk σ H1 fun zs H2 => vs.length = n ∧ zs.length = q ∧ sp (gV vs zs) H2 Q E) : tCallN n q sp gV E t tk σ H Q := k
end
end G

/-! ### dicts of data with int keys -/
namespace G
open PySem PySem.Spec PyProof.Rows L2
inductive KvR (K : PySem.W.Frag) (Z : Hp) : List (Key × V) → List (Int × PyData) → Prop
  | nil : KvR K Z [] []
  | cons {i : Int} {v : V} {d : PyData} {r : List (Key × V)} {m : List (Int × PyData)} : Dp K Z v d → KvR K Z r m → KvR K Z ((Sum.inl i, v) :: r) ((i, d) :: m)
def fI (ms : List (Int × PyData)) (i : Int) : Option PyData := (ms.find? fun q => decide (q.1 = i)).map (·.2)
def hasI (ms : List (Int × PyData)) (i : Int) : Bool := (fI ms i).isSome
def dgI (ms : List (Int × PyData)) (i : Int) : PyData := (fI ms i).getD .none
def putI (ms : List (Int × PyData)) (i : Int) (d : PyData) : List (Int × PyData) := if hasI ms i = true then ms.map (fun q => if q.1 = i then (q.1, d) else q) else ms ++ [(i, d)]
def dropI (ms : List (Int × PyData)) (i : Int) : List (Int × PyData) := ms.filter fun q => decide (q.1 ≠ i)
def gV (kvs : List (Key × V)) (i : Int) : V := (valV kvs (Sum.inl i)).getD .non
section
variable {K : PySem.W.Frag} {Z Z' : Hp} {kvs : List (Key × V)} {ms : List (Int × PyData)} {i j : Int} {v : V} {d : PyData}
theorem KvR.le (h : Le Z Z') (r : KvR K Z kvs ms) : KvR K Z' kvs ms := by
  induction r with
  | nil => exact .nil
  | cons a _ ih => exact .cons (h.dp a) ih
theorem KvR.len (r : KvR K Z kvs ms) : kvs.length = ms.length := by
  induction r with
  | nil => rfl
  | cons _ _ ih => exact congrArg Nat.succ ih
theorem fI_cons (q : Int × PyData) (m : List (Int × PyData)) (i : Int) : fI (q :: m) i = if q.1 = i then some q.2 else fI m i := by
  unfold fI
  by_cases h : q.1 = i <;> simp [h]
theorem valI_cons (q : Int) (v : V) (r : List (Key × V)) (i : Int) : valV ((Sum.inl q, v) :: r) (Sum.inl i : Key) = if q = i then some v else valV r (Sum.inl i) := by
  by_cases h : q = i
  · subst h; rw [if_pos rfl]; exact valV_pos rfl
  · rw [if_neg h]; exact valV_neg (fun e => h (Sum.inl.inj e))
theorem KvR.get (r : KvR K Z kvs ms) (i : Int) : (valV kvs (Sum.inl i) = none ∧ fI ms i = none) ∨ ∃ v d, valV kvs (Sum.inl i) = some v ∧ fI ms i = some d ∧ Dp K Z v d := by
  induction r with
  | nil => exact .inl ⟨rfl, rfl⟩
  | cons a _ ih =>
    rw [valI_cons, fI_cons]
    split
    · exact .inr ⟨_, _, rfl, rfl, a⟩
    · exact ih
theorem KvR.isS (r : KvR K Z kvs ms) (i : Int) : (valV kvs (Sum.inl i)).isSome = hasI ms i := by
  unfold hasI
  rcases r.get i with ⟨a, b⟩ | ⟨v, d, a, b, _⟩ <;> rw [a, b] <;> rfl
theorem KvR.dp (r : KvR K Z kvs ms) (i : Int) : Dp K Z (gV kvs i) (dgI ms i) := by
  unfold gV dgI
  rcases r.get i with ⟨a, b⟩ | ⟨v, d, a, b, c⟩ <;> rw [a, b]
  · exact .non
  · exact c
theorem KvR.sm (r : KvR K Z kvs ms) (h : hasI ms i = true) : valV kvs (Sum.inl i) = some (gV kvs i) := by
  unfold gV
  rw [← r.isS] at h
  cases e : valV kvs (Sum.inl i) with
  | none => rw [e] at h; cases h
  | some v => rfl
theorem hasI_any (ms : List (Int × PyData)) (i : Int) : hasI ms i = ms.any fun q => decide (q.1 = i) := by
  unfold hasI
  induction ms with
  | nil => rfl
  | cons q m ih =>
    rw [fI_cons, List.any_cons, ← ih]
    by_cases h : q.1 = i <;> simp [h]
theorem KvR.app {k2 : List (Key × V)} {m2 : List (Int × PyData)} (r : KvR K Z kvs ms) (q : KvR K Z k2 m2) : KvR K Z (kvs ++ k2) (ms ++ m2) := by
  induction r with
  | nil => exact q
  | cons a _ ih => exact .cons a ih
theorem KvR.put (r : KvR K Z kvs ms) (i : Int) (h : Dp K Z v d) : KvR K Z (putK kvs (Sum.inl i) v) (putI ms i d) := by
  unfold putK putI
  rw [show (kvs.any fun kv => decide (kv.1 = (Sum.inl i : Key))) = (valV kvs (Sum.inl i)).isSome from valV_any _ _, r.isS]
  by_cases e : hasI ms i = true
  · rw [if_pos e, if_pos e]
    clear e
    induction r with
    | nil => exact .nil
    | cons a _ ih =>
      rename_i q w d' r' m' _
      rw [List.map_cons, List.map_cons]
      by_cases hq : q = i
      · subst hq
        rw [if_pos rfl, if_pos rfl]
        exact .cons h ih
      · rw [if_neg (fun z => hq (Sum.inl.inj z)), if_neg hq]
        exact .cons a ih
  · rw [if_neg e, if_neg e]
    exact r.app (.cons h .nil)
theorem KvR.drop (r : KvR K Z kvs ms) (i : Int) : KvR K Z (dropK kvs (Sum.inl i)) (dropI ms i) := by
  unfold dropK dropI
  induction r with
  | nil => exact .nil
  | cons a _ ih =>
    rename_i q w d' r' m' _
    rw [List.filter_cons, List.filter_cons]
    by_cases hq : q = i
    · subst hq; simpa using ih
    · have h1 : decide ((Sum.inl q : Key) ≠ Sum.inl i) = true := decide_eq_true (fun z => hq (Sum.inl.inj z))
      have h2 : decide (q ≠ i) = true := decide_eq_true hq
      rw [if_pos h1, if_pos h2]
      exact .cons a ih
theorem KvR.at (r : KvR K Z kvs ms) {n : Nat} {k : Key} {v : V} (h : kvs[n]? = some (k, v)) : ∃ i d, ms[n]? = some (i, d) ∧ k = Sum.inl i ∧ Dp K Z v d := by
  induction r generalizing n with
  | nil => cases h
  | cons a _ ih =>
    cases n with
    | zero => cases h; exact ⟨_, _, rfl, rfl, a⟩
    | succ n => exact ih (by simpa using h)
theorem KvR.keys (r : KvR K Z kvs ms) : kvs.map (·.1) = (ms.map Prod.fst).map Sum.inl := by
  induction r with
  | nil => rfl
  | cons _ _ ih => rw [List.map_cons, ih]; rfl
/-! looks and stores in the mirror -/
theorem fI_put (ms : List (Int × PyData)) (i j : Int) (d : PyData) : fI (putI ms i d) j = if j = i then some d else fI ms j := by
  have hm : ∀ m : List (Int × PyData), hasI m i = true → fI (m.map (fun q => if q.1 = i then (q.1, d) else q)) j = if j = i then some d else fI m j := by
    intro m
    induction m with
    | nil => intro h; cases h
    | cons q m ih =>
      intro h
      rw [List.map_cons, fI_cons, fI_cons]
      by_cases hq : q.1 = i
      · rw [if_pos hq]
        by_cases hj : j = i
        · subst hj; simp [hq]
        · have : ¬ q.1 = j := fun z => hj (z.symm.trans hq)
          rw [if_neg this, if_neg this, if_neg hj]
          by_cases hi : hasI m i = true
          · rw [ih hi, if_neg hj]
          · clear ih h
            induction m with
            | nil => rfl
            | cons p m ih2 =>
              rw [List.map_cons, fI_cons, fI_cons]
              have hp : ¬ p.1 = i := fun z => hi (by rw [hasI_any]; simp [z])
              rw [if_neg hp]
              rw [ih2 (fun z => hi (by rw [hasI_any] at z ⊢; simp at z ⊢; exact .inr z))]
      · rw [if_neg hq]
        have hi : hasI m i = true := by
          rw [hasI_any] at h ⊢
          simpa [hq] using h
        by_cases hj : q.1 = j
        · have : ¬ j = i := fun z => hq (hj.trans z)
          rw [if_pos hj, if_pos hj, if_neg this]
        · rw [if_neg hj, if_neg hj]; exact ih hi
  unfold putI
  by_cases e : hasI ms i = true
  · rw [if_pos e]; exact hm ms e
  · rw [if_neg e]
    clear hm
    induction ms with
    | nil =>
      rw [List.nil_append, fI_cons]
      by_cases h : i = j
      · subst h; simp
      · rw [if_neg h, if_neg (fun z => h z.symm)]
    | cons q m ih =>
      have hq : ¬ q.1 = i := fun z => e (by rw [hasI_any]; simp [z])
      have hi : ¬ hasI m i = true := fun z => e (by rw [hasI_any] at z ⊢; simp at z ⊢; exact .inr z)
      rw [List.cons_append, fI_cons, fI_cons, ih hi]
      by_cases hj : q.1 = j
      · have : ¬ j = i := fun z => hq (hj.trans z)
        rw [if_pos hj, if_pos hj, if_neg this]
      · rw [if_neg hj, if_neg hj]
theorem fI_drop (ms : List (Int × PyData)) (i j : Int) : fI (dropI ms i) j = if j = i then none else fI ms j := by
  unfold dropI
  induction ms with
  | nil => by_cases h : j = i <;> simp [fI, h]
  | cons q m ih =>
    rw [List.filter_cons, fI_cons]
    by_cases hq : q.1 = i
    · simp only [hq, ne_eq, not_true_eq_false, decide_false, Bool.false_eq_true, if_false, ih]
      by_cases hj : j = i
      · simp [hj]
      · have : ¬ i = j := fun z => hj z.symm
        simp [hj, this]
    · rw [if_pos (decide_eq_true hq), fI_cons, ih]
      by_cases hj : q.1 = j
      · have : ¬ j = i := fun z => hq (hj.trans z)
        rw [if_pos hj, if_pos hj, if_neg this]
      · rw [if_neg hj, if_neg hj]
end
def di (K : PySem.W.Frag) (a : Addr) (kvs : List (Key × V)) (ms : List (Int × PyData)) : As := ⟨fun S Z H => S a ∧ H a = some (.dK kvs) ∧ KvR K Z kvs ms, false, fun l k h => ⟨h.1, k _ _ h.1 h.2.1, h.2.2.le l⟩, fun h => nomatch h⟩
/-- a dict that is being walked -/
def dif (K : PySem.W.Frag) (a : Addr) (o : Obj) (kvs : List (Key × V)) (ms : List (Int × PyData)) : As := ⟨fun S Z H => S a ∧ H a = some (.frz o (.dK kvs)) ∧ KvR K Z kvs ms, false, fun l k h => ⟨h.1, k _ _ h.1 h.2.1, h.2.2.le l⟩, fun h => nomatch h⟩
section
variable {F : Addr → Prop} {B Y H Z H' Z' : Hp} {L : List As} {a p : Addr} {K : PySem.W.Frag} {kvs kvs' : List (Key × V)} {ms ms' : List (Int × PyData)} {o : Obj} {v : V} {d : PyData} {i : Int} {σ : L2.St} {td ty tv te : TE} {D : Ends} {tz tu : TS}
theorem Hs.dim (s : Hs F B Y L H Z) (n : Nat) (h : L[n]? = some (di K p kvs ms)) : H p = some (.dK kvs) := by
  obtain ⟨S, w, _⟩ := s.at n h; exact w.2.1
theorem Hs.difm (s : Hs F B Y L H Z) (n : Nat) (h : L[n]? = some (dif K p o kvs ms)) : H p = some (.frz o (.dK kvs)) := by
  obtain ⟨S, w, _⟩ := s.at n h; exact w.2.1
theorem Hs.dir (s : Hs F B Y L H Z) (n : Nat) (h : L[n]? = some (di K p kvs ms)) : KvR K Z kvs ms := by
  obtain ⟨S, w, _⟩ := s.at n h; exact w.2.2
theorem Hs.difr (s : Hs F B Y L H Z) (n : Nat) (h : L[n]? = some (dif K p o kvs ms)) : KvR K Z kvs ms := by
  obtain ⟨S, w, _⟩ := s.at n h; exact w.2.2
theorem Hs.wri (s : Hs F B Y L H Z) (n : Nat) (h : L[n]? = some (di K p kvs ms)) (k : KvR K Z kvs ms → KvR K Z kvs' ms') : Hs F B Y (L.set n (di K p kvs' ms')) (upd H p (.dK kvs')) Z :=
  s.wrG n _ _ _ h fun _ w => ⟨w.1, w.1, upd_same, k w.2.2⟩
theorem Hs.lock (s : Hs F B Y L H Z) (n : Nat) (o : Obj) (h : L[n]? = some (di K p kvs ms)) : Hs F B Y (L.set n (dif K p o kvs ms)) (upd H p (.frz o (.dK kvs))) Z :=
  s.wrG n _ _ _ h fun _ w => ⟨w.1, w.1, upd_same, w.2.2⟩
theorem Hs.unlock (s : Hs F B Y L H Z) (n : Nat) (h : L[n]? = some (dif K p o kvs ms)) : Hs F B Y (L.set n (di K p kvs ms)) (upd H p (.dK kvs)) Z :=
  s.wrG n _ _ _ h fun _ w => ⟨w.1, w.1, upd_same, w.2.2⟩
theorem Hs.newd (s : Hs F B Y L H Z) (np : H p = none) (r : KvR K Z kvs ms) : Hs F B Y (di K p kvs ms :: L) (upd H p (.dK kvs)) Z := by
  have s1 := s.new np (.dK kvs)
  have := s1.as 0 _ (di K p kvs ms) rfl (fun S w => ⟨w.1, w.2, r⟩)
  exact this
theorem dget_rd (hd : Rd H a (.dK kvs)) (i : Int) : DGet H a (.int i) (valV kvs (Sum.inl i)) := .inl ⟨kvs, Sum.inl i, hd, rfl, rfl⟩
theorem vdin (hr : KvR K Z kvs ms) (hd : Rd H a (.dK kvs)) (hy : Val ty σ H (.int i)) (hx : Val td σ H (.ref a)) : Val (tDIn ty td) σ H (.bl (decide (hasI ms i = true))) := fun Q q => hy _ (hx _ ⟨a, _, rfl, dget_rd hd i, by
  rw [hr.isS]
  rwa [show decide (hasI ms i = true) = hasI ms i from by cases hasI ms i <;> rfl] at q⟩)
theorem vdnin (hr : KvR K Z kvs ms) (hd : Rd H a (.dK kvs)) (hy : Val ty σ H (.int i)) (hx : Val td σ H (.ref a)) : Val (tDNotIn ty td) σ H (.bl (decide (¬ hasI ms i = true))) := fun Q q => hy _ (hx _ ⟨a, _, rfl, dget_rd hd i, by
  rw [hr.isS]
  rwa [show decide (¬ hasI ms i = true) = !hasI ms i from by cases hasI ms i <;> rfl] at q⟩)
theorem vdget (hr : KvR K Z kvs ms) (hd : Rd H a (.dK kvs)) (h : hasI ms i = true) (hx : Val td σ H (.ref a)) (hy : Val ty σ H (.int i)) : Val (tDGet td ty) σ H (gV kvs i) := fun Q q => hx _ (hy _ ⟨a, _, rfl, by
  have := dget_rd hd i
  rwa [hr.sm h] at this, q⟩)
theorem vdget1 (hd : Rd H a (.dK kvs)) (hx : Val td σ H (.ref a)) (hy : Val ty σ H (.int i)) : Val (tDGet1 td ty) σ H (gV kvs i) := fun Q q => hx _ ⟨a, rfl, .inl ⟨kvs, hd⟩, hy _ ⟨_, dget_rd hd i, q⟩⟩
abbrev rLenD : List V → Hp → VK → Prop := fun xs H Q => ∃ a kvs, xs = [V.ref a] ∧ H a = some (.dK kvs) ∧ Q (.int kvs.length) H
theorem vlenD (ha : Val te σ H (.ref a)) (hd : H a = some (.dK kvs)) : Val (tCB rLenD (tCons te tNil)) σ H (.int kvs.length) := fun Q q => ha _ ⟨a, kvs, rfl, hd, q⟩
theorem s_dput (hd : H a = some (.dK kvs)) (hv : Val tv σ H v) (hx : Val td σ H (.ref a)) (hy : Val ty σ H (.int i)) (hl : kvs.length < 1000000) (k : tz D σ (upd H a (.dK (putK kvs (Sum.inl i) v)))) : tSeq (sDPut td ty tv) tz D σ H :=
  hv _ (hx _ (hy _ ⟨a, _, rfl, DPut.k (k := Sum.inl i) hd (sz2 hl), k⟩))
theorem s_ddel (hr : KvR K Z kvs ms) (hd : H a = some (.dK kvs)) (hx : Val td σ H (.ref a)) (hy : Val ty σ H (.int i)) (h : hasI ms i = true) (k : tz D σ (upd H a (.dK (dropK kvs (Sum.inl i))))) : tSeq (sDDel td ty) tz D σ H :=
  hx _ (hy _ ⟨a, kvs, Sum.inl i, rfl, hd, rfl, by rw [hr.isS]; exact h, k⟩)
theorem s_dpop {Q : VK} (hr : KvR K Z kvs ms) (hd : H a = some (.dK kvs)) (hx : Val td σ H (.ref a)) (hy : Val ty σ H (.int i)) (h : hasI ms i = true) (k : Q (gV kvs i) (upd H a (.dK (dropK kvs (Sum.inl i))))) : tDPop1 td ty σ H Q :=
  hx _ ⟨a, rfl, .inl ⟨kvs, .inl hd⟩, hy _ ⟨kvs, Sum.inl i, gV kvs i, hd, rfl, hr.sm h, k⟩⟩
theorem c_dnew {Q : VK} (k : ∀ p, H p = none → Q (.ref p) (upd H p (.dK []))) : tDNewK σ H Q := k
def kDput (td ty : TE) (tz : TS) (D : Ends) (σ : L2.St) : VK := fun v H1 => td σ H1 fun x H2 => ty σ H2 fun y H3 => ∃ a H4, x = .ref a ∧ DPut H3 a y v H4 ∧ tz D σ H4
theorem c_dput (k : tv σ H (kDput td ty tz D σ)) : tSeq (sDPut td ty tv) tz D σ H := k
theorem k_dput (k : tSeq (sDPut td ty (tC v)) tz D σ H) : kDput td ty tz D σ v H := k
/-- for k in d (d stands still) -/
theorem s_forK {j : Nat} (h : ∀ H', Val te σ H' (.ref a)) (hd : H a = some (.dK kvs)) (Pv : Obj → Nat → L2.St → Hp → Prop) (h0 : ∀ od, Pv od 0 σ (upd H a (.frz od (.dK kvs)))) (hl : ∀ od i σ' H', i ≤ kvs.length → Pv od i σ' H' → H' a = some (.frz od (.dK kvs)))
    (hs : ∀ od i k v σ' H', kvs[i]? = some (k, v) → Pv od i σ' H' → tu { nx := Pv od (i + 1), ct := Pv od (i + 1), bk := fun σ' H' => H' a = some (.frz od (.dK kvs)) ∧ tz D σ' (upd H' a (.dK kvs)), rt := fun v H' => H' a = some (.frz od (.dK kvs)) ∧ D.rt v (upd H' a (.dK kvs)) } (σ'.set j (some (kV k))) H')
    (he : ∀ od σ' H', Pv od kvs.length σ' H' → H' a = some (.frz od (.dK kvs)) ∧ tz D σ' (upd H' a (.dK kvs))) : tSeq (tLock (tFor (iKeys te) (gName j) tu)) tz D σ H := by
  refine ⟨a, .dK kvs, hd, trivial, fun od => ?_⟩
  refine h _ _ ⟨a, od, rfl, .inl ⟨kvs, upd_same, ?_⟩⟩
  exact for_it walk_keys (Pv od) (h0 od) (hl od) (fun i x σ1 H1 H2 hi p y => by
    obtain ⟨rfl, k, v, hk, rfl⟩ := y
    exact hs od i k v σ1 H2 hk p) (he od)
end
end G
local macro_rules | `(tactic| walk_at "has") => `(tactic| first | assumption | walk_at "has2")

/-! ### enumerate over a tuple; dict.get with a default; list.index -/
namespace G
open PySem PySem.Spec PyProof.Rows L2
/-- what a loop over the pairs of a tuple goes through -/
def PairsT (K : PySem.W.Frag) (a : Addr) : It where
  go i H := ∃ l : List V, SqT K H a l ∧ i < l.length
  yld i H v H' := ∃ p x, v = .ref p ∧ H p = none ∧ H' = upd H p (.tup [.int (i : Nat), x]) ∧ ∀ l, SqT K H a l → l[i]? = some x
  stop i H := ∃ l : List V, SqT K H a l ∧ i = l.length
theorem pairsT_turn {P : Program} {w : World} {K : PySem.W.Frag} {es : List Expr} {n : Nat} {q : Pos} {a e j : Addr} (h1 : a ≠ j) (h2 : e ≠ j) (h3 : a ≠ e) :
    Turn P w K (.Tuple es n q) (PairsT K a) [e, j] e (fun i h => (∃ u, IsEnum h e j ((i : Nat) : Int) u) ∧ h.IsTupleIter j a i) := by
  have W := fun (A : Around) (hA : A.handled = none) (its : Array Value) => WalksT.enumerateD (prog := P) (w := w) (A := A) (fp := [j, a]) (Draws.tuple (A := A.in1) (show A.in1.handled = none from hA) j a h1 its) e h2 (by simp [h2, Ne.symm h3]) (by simp)
  refine ⟨by simp, ?_, ?_, ?_, ?_, ?_⟩
  · rintro i h ⟨⟨u, he⟩, o, ho, -, hd⟩ b hb
    simp only [List.mem_cons, List.not_mem_nil, or_false] at hb
    rcases hb with rfl | rfl
    · exact ⟨_, he, by intro v z; cases z⟩
    · exact ⟨o, ho, by intro v z; rw [z] at hd; cases hd⟩
  · rintro i h h' ⟨⟨u, he⟩, hi⟩ kp
    exact ⟨⟨u, kp e (by simp) _ he⟩, hi.at fun o z => kp j (by simp) o z⟩
  · rintro X rfl rfl rfl hc i pins s σ H E I hf ⟨he, hi⟩ ⟨l, hl, hlt⟩
    obtain ⟨its, rv, tp, -⟩ := I.tuple hl
    obtain ⟨u, hu, ru⟩ := rv.get (List.getElem?_eq_getElem hlt)
    have hsz : i < its.toArray.size := by
      have := (List.getElem?_eq_some_iff.mp hu).1
      simpa using this
    refine (W X.A (I.ok.hd hc) its.toArray).item i s _ _ hsz ⟨he, hi, tp⟩ fun T vals ha tk hP fresh hT mid kp => ⟨_, rfl, (W X.A (I.ok.hd hc) its.toArray).go es n q i T { s with heap := ha, toks := tk } _ _ mid fun hb st kp' => ?_⟩
    obtain ⟨t, y, hy, rfl⟩ := hP
    have ey : y = u := by
      have hy' : its.toArray[i]? = some y := hy
      rw [List.getElem?_toArray, hu] at hy'
      exact (Option.some.inj hy').symm
    subst ey
    have hTb : hb.IsTuple T #[.int i t, y] := hT.at fun o z => kp' T o ((W X.A (I.ok.hd hc) its.toArray).apart i T ha mid) z
    refine ⟨.ref T, _, I.turnedNew (t' := tk) (ch := [e, j]) (fun b o hb' z => kp' b o hb' (kp b o hb' z)) hf fresh (ob := .tup [.int (i : Nat), l[i]]) ⟨by show 2 ≤ sizeLine; decide, [.int i t, y], .cons ⟨_, rfl⟩ (.cons ru .nil), hTb⟩, rfl, ⟨T, l[i], rfl, I.hok.fresh fresh, rfl, fun l' hl' => ?_⟩, ⟨st.1, st.2.1⟩, fun b hb' => ?_⟩
    · rw [I.tuple_inj hl' hl]; exact List.getElem?_eq_getElem hlt
    · have hne : b ≠ T := fun z => (W X.A (I.ok.hd hc) its.toArray).apart i T ha mid (z ▸ hb')
      rw [upd_ne hne]; exact (hf b hb').1
  · rintro X rfl rfl rfl hc i pins s σ H E I hf ⟨he, hi⟩ ⟨l, hl, rfl⟩
    obtain ⟨its, rv, tp, -⟩ := I.tuple hl
    have hsz : l.length = its.toArray.size := by rw [List.size_toArray]; exact rv.length
    refine (W X.A (I.ok.hd hc) its.toArray).done s _ _ ⟨hsz ▸ he, hsz ▸ hi, tp⟩ fun h' tk kp => ⟨rfl, I.turnedL (ch := [e, j]) kp hf⟩
  · rintro A i s Q E ⟨⟨u, he⟩, -⟩ h
    exact wpAny_pyIter_enum he h
theorem begin_pairsT (a : Addr) (its : Array Value) (o : Obj) : Meets (Builtin.«enumerate.__new__» ⟨[.type "enumerate", .ref a], []⟩) (fun _ R s => (s.heap.get? a = some o ∧ s.heap.IsTuple a its) ∧
      R (.ok (.ret (.ref (s.heap.push ⟨.type "tuple_iterator", none, .fields #[.ref a, .int 0 0], #[]⟩).objs.size)))
        { s with heap := (s.heap.push ⟨.type "tuple_iterator", none, .fields #[.ref a, .int 0 0], #[]⟩).push ⟨.type "enumerate", none, .fields #[.none, .bool false, .ref s.heap.objs.size, rawInt 0, .none, .none], #[]⟩ }) :=
  .of_wp fun prog w A R s ⟨⟨ho, ht⟩, hR⟩ => by
    cases s
    have hc := ht
    obtain ⟨o', ho', hcl, m, hdt⟩ := hc
    rw [ho] at ho'; cases ho'
    cases o; cases hcl; cases hdt
    have es := sub_enumerate
    wp_walk using AutoSeq1.wpAny_loadPart' ho
    refine wpAny_stack_any (fun _ => wpAny_pure ?_)
    split <;> (try (rename_i c _ _ _ _ _; cases (c == Value.type "enumerate"))) <;> (wp_walk using AutoSeq1.wpAny_loadPart' ho, wpAny_pyIter_tuple ht; exact ⟨_, rfl, hR⟩)
theorem call_pairsT {prog : Program} {w : World} {A : Around} {E : Value → Shared → Prop} {s : Shared} {a : Addr} {its : Array Value} {Q : Value → Shared → Prop} (ht : s.heap.IsTuple a its)
    (k : ∀ g, IsEnum g (s.heap.objs.size + 1) s.heap.objs.size 0 .none ∧ g.IsTupleIter s.heap.objs.size a 0 ∧ (∀ b o, s.heap.get? b = some o → g.get? b = some o) → Q (.ref (s.heap.objs.size + 1)) { s with heap := g }) :
    wpAny (model prog w) A (call (.type "enumerate") [.ref a]) Q E s := by
  have ⟨o, ho, _⟩ := ht
  have one : ∀ p, (s.heap.push p).objs.size = s.heap.objs.size + 1 := fun p => Heap.size_push ..
  have top : ∀ (g : Heap) (p : Obj), p.isFreed = false → (g.push p).get? g.objs.size = some p := fun g p z => Heap.get?_push_size g z
  refine callType_new F.called_enumerate (by decide) (F.typeCall_enumerate_1 _) (F.newCall_enumerate_1 _) (fun _ => F.args_object_init_2 _ _) F.entry_enumerate_new (begin_pairsT a its o) ⟨⟨ho, ht⟩, ⟨_, top _ _ rfl, rfl⟩, ?_⟩
  rw [one]
  refine k _ ⟨?_, ⟨_, Heap.get?_push_of_some _ (top _ _ rfl), rfl, rfl⟩, fun b o z => Heap.get?_push_of_some _ (Heap.get?_push_of_some _ z)⟩
  have z := top (s.heap.push ⟨.type "tuple_iterator", none, .fields #[.ref a, .int 0 0], #[]⟩) ⟨.type "enumerate", none, .fields #[.none, .bool false, .ref s.heap.objs.size, rawInt 0, .none, .none], #[]⟩ rfl
  rwa [one] at z
def iEnumT (K : PySem.W.Frag) (ta : TA) : TI := fun σ H R => ta σ H fun vs H' => ∃ a l, vs = [V.ref a] ∧ SqT K H' a l ∧ R (PairsT K a) H'
theorem pi_enumT {X : Cx} {x : Expr} {ta : TA} {p1 p2 p3 : Pos} {es : List Expr} {n : Nat} (hg : Gl X "enumerate") (hm : X.mg "enumerate" = none) (ha : PA X [x] ta) (hs : starEach [x] X.env = [(false, eval x X.env)] := by rfl) :
    PI X (.Tuple es n p3) (.Call (.Name "enumerate" p1) [x] [] p2) (iEnumT X.K ta) where
  run pins s σ H R I h := Call_ (ld_blt I hg hm boot_enumerate (PyProof.Rows.callWith_type1 (thn (ha.run p2 pins s σ H _ I h) fun us s' ⟨vs, H', I', rv, a, l, ev, hl, r⟩ => by
    subst ev
    rcases rv with _ | ⟨rfl, _ | _⟩
    have ⟨its, _, tp, _⟩ := I'.tuple hl
    have below : a < s'.heap.objs.size := by have ⟨o, ho, _⟩ := tp; exact Heap.lt_size ho
    refine call_pairsT tp fun g ⟨he, hi, kp⟩ => wpAny_pyIter_enum he ?_
    refine ⟨_, [_, s'.heap.objs.size], _, _, H', rfl, I'.kept (t' := s'.toks) kp, pairsT_turn (Nat.ne_of_lt below) (Nat.succ_ne_self _) (Nat.ne_of_lt (Nat.lt_succ_of_lt below)), ⟨⟨_, he⟩, hi⟩, ?_, r⟩
    intro b hb
    have old : s'.heap.objs.size ≤ b := by
      simp only [List.mem_cons, List.not_mem_nil, or_false] at hb
      rcases hb with z | z
      · exact z ▸ Nat.le_succ _
      · exact z ▸ Nat.le_refl _
    exact I'.fpOk old (I'.hok.fresh old)) hs rfl))
theorem walk_pairsT {K : PySem.W.Frag} {a : Addr} {l : List V} : Walk (PairsT K a) l.length (fun H => SqT K H a l) (YPair (fun i => some (.int (i : Nat))) (fun i => l[i]?)) :=
  ⟨fun _ _ hi z => ⟨l, z, hi⟩, fun _ z => ⟨l, z, rfl⟩, fun _ _ _ _ _ z ⟨p, x, h1, h2, h3, h4⟩ => ⟨p, _, x, h1, h2, h3, rfl, h4 l z⟩⟩
theorem s_forET {K : PySem.W.Frag} {σ : L2.St} {H : Hp} {te : TE} {g : TG} {tu tz : TS} {D : Ends} {a : Addr} {xs : List V} (h : Val te σ H (.ref a)) (hx : SqT K H a xs) (Pv : Nat → L2.St → Hp → Prop) (h0 : Pv 0 σ H) (hl : ∀ i σ' H', i ≤ xs.length → Pv i σ' H' → SqT K H' a xs)
    (hs : ∀ i x σ' H', xs[i]? = some x → Pv i σ' H' → ∀ T, H' T = none → g (.ref T) σ' (upd H' T (.tup [.int (i : Int), x])) fun σ1 H1 => tu { D with nx := Pv (i + 1), ct := Pv (i + 1), bk := tz D } σ1 H1) (hd : ∀ σ' H', Pv xs.length σ' H' → tz D σ' H') : tSeq (tFor (iEnumT K (tCons te tNil)) g tu) tz D σ H :=
  h _ ⟨a, xs, rfl, hx, for_it walk_pairsT Pv h0 hl (fun i x σ1 H1 H2 hi p y => by
    obtain ⟨T, u, v, rfl, nT, rfl, e1, e2⟩ := y
    cases e1
    exact hs i v σ1 H1 e2 p T nT) hd⟩
end G
namespace G
open PySem PySem.Spec PyProof.Rows L2
section
variable {K : PySem.W.Frag} {Z H : Hp} {σ : L2.St} {a : Addr} {kvs : List (Key × V)} {ms : List (Int × PyData)}
def allI (ms : List (Int × PyData)) : Prop := ∀ q ∈ ms, ∃ n : Int, q.2 = .int n
def gnI (ms : List (Int × PyData)) (i x : Int) : Int := match fI ms i with | some (.int n) => n | _ => x
theorem fI_mem {i : Int} {d : PyData} (h : fI ms i = some d) : ∃ q ∈ ms, q.2 = d := by
  unfold fI at h
  cases e : ms.find? (fun q => decide (q.1 = i)) with
  | none => rw [e] at h; cases h
  | some q => rw [e] at h; exact ⟨q, List.mem_of_find?_eq_some e, Option.some.inj h⟩
theorem KvR.intD (r : KvR K Z kvs ms) (h : allI ms) (i x : Int) : (valV kvs (Sum.inl i)).getD (.int x) = .int (gnI ms i x) := by
  rcases r.get i with ⟨e, b⟩ | ⟨v, d, e, b, p⟩
  · rw [e]; unfold gnI; rw [b]; rfl
  · obtain ⟨q, hq, hd⟩ := fI_mem b
    obtain ⟨n, hn⟩ := h q hq
    have hdn : d = .int n := hd.symm.trans hn
    subst hdn
    rw [e]; unfold gnI; rw [b]; exact dp_int p
theorem vdget2 {td ty tx : TE} {i x : Int} (hr : KvR K Z kvs ms) (hd : Rd H a (.dK kvs)) (hi : allI ms) (hx : Val td σ H (.ref a)) (hy : Val ty σ H (.int i)) (hz : Val tx σ H (.int x)) : Val (tDGet2 td ty tx) σ H (.int (gnI ms i x)) :=
  fun Q q => hx _ ⟨a, rfl, .inl ⟨kvs, hd⟩, hy _ (hz _ ⟨_, dget_rd hd i, by rw [hr.intD hi]; exact q⟩)⟩
theorem allI_put (h : allI ms) (i n : Int) : allI (putI ms i (.int n)) := by
  intro q hq
  unfold putI at hq
  split at hq
  · obtain ⟨r, hr, rfl⟩ := List.mem_map.mp hq
    split
    · exact ⟨n, rfl⟩
    · exact h r hr
  · rcases List.mem_append.mp hq with hq | hq
    · exact h q hq
    · rw [List.mem_singleton.mp hq]; exact ⟨n, rfl⟩
theorem gnI_put (ms : List (Int × PyData)) (i j n x : Int) : gnI (putI ms i (.int n)) j x = if j = i then n else gnI ms j x := by
  unfold gnI
  rw [fI_put]
  by_cases h : j = i
  · rw [if_pos h, if_pos h]
  · rw [if_neg h, if_neg h]
theorem idx_le : ∀ {ns : List Int} {m : Nat} {y : Int}, ns[m]? = some y → ns.idxOf y ≤ m
  | [], _, _, h => by cases h
  | a :: r, m, y, h => by
    rw [List.idxOf_cons]
    by_cases e : a = y
    · subst e; simp
    · have : (a == y) = false := by simpa using e
      rw [this]
      cases m with
      | zero => exact absurd (Option.some.inj h) e
      | succ m => exact Nat.succ_le_succ (idx_le (ns := r) (by simpa using h))
theorem vindex {to tx : TE} {ns : List Int} {n : Int} (h : SqL K H a (ns.map V.int)) (hm : n ∈ ns) (ho : Val to σ H (.ref a)) (hx : Val tx σ H (.int n)) : Val (tBM K "list" (rIndex K) to (tCons tx tNil)) σ H (.int ((ns.idxOf n : Nat) : Int)) :=
  fun Q q => ho _ ⟨Or.inl ⟨rfl, _, h⟩, hx _ ⟨a, ns.map V.int, .int n, ns.idxOf n, .int n, rfl, rfl, h, rfl, by simp [flatV], by
    rw [List.getElem?_map, List.getElem?_eq_getElem (List.idxOf_lt_length_of_mem hm), List.getElem_idxOf]; rfl, by simp [eqV], fun m z hlt hz => by
    rw [List.getElem?_map] at hz
    cases e : ns[m]? with
    | none => rw [e] at hz; cases hz
    | some y =>
      rw [e] at hz
      cases hz
      have hne : y ≠ n := fun hy => by
        subst hy
        exact absurd (idx_le e) (by omega)
      simp [eqV, hne], q⟩⟩
end
end G
local macro_rules | `(tactic| walk_at "allI") => `(tactic| assumption)
local macro_rules | `(tactic| walk_at "index") => `(tactic| first | assumption | exact And.right (by assumption) | (simp_all; done))

/-! ### comprehension over enumerate; lists of truth values as data -/
namespace G
open PySem PySem.Spec PyProof.Rows L2
section
variable {K : PySem.W.Frag} {F : Addr → Prop} {B Y Z H : Hp} {L : List As} {σ : L2.St} {a : Addr} {te tb : TE}
def en (f : Int → Int → Int) (ps : List Int) : List Int := ps.mapIdx fun i n => f (i : Int) n
theorem en_snoc (f : Int → Int → Int) (ps : List Int) (n : Int) : en f (ps ++ [n]) = en f ps ++ [f (ps.length : Int) n] := by
  unfold en; rw [List.mapIdx_append]; simp
theorem en_len (f : Int → Int → Int) (ps : List Int) : (en f ps).length = ps.length := by unfold en; simp
theorem gi_en {f : Int → Int → Int} {ps : List Int} {k : Int} (h0 : 0 ≤ k) (h1 : k < (ps.length : Int)) : gi (en f ps) k = f k (gi ps k) := by
  obtain ⟨n, rfl⟩ := Int.eq_ofNat_of_zero_le h0
  have hn : n < ps.length := by omega
  unfold gi en
  simp [hn]
theorem c_lcE {ps : List Int} {j1 j2 : Nat} {vs : List Nat} {Q : VK} (f : Int → Int → Int) (s : Hs F B Y L H Z) (h : Val te σ H (.ref a)) (hl : ∀ H', Hs F B Y L H' Z → SqL K H' a (ps.map V.int)) (hn : ps.length ≤ 100000)
    (hw : ∀ x y, wipe (((wipe σ vs).set j1 (some x)).set j2 (some y)) vs = wipe σ vs)
    (he : ∀ (i : Nat) n H', ps[i]? = some n → Hs F B Y L H' Z → Val tb (((wipe σ vs).set j1 (some (.int (i : Int)))).set j2 (some (.int n))) H' (.int (f (i : Int) n)))
    (k : ∀ D H', Hs F B Y (c D (.lst ((en f ps).map V.int)) :: L) H' Z → Q (.ref D) H') : tLc (iEnum K (tCons te tNil)) (gTup K 2 (gCons (gName j1) (gCons (gName j2) gNil))) tYes tb vs σ H Q :=
  h _ ⟨a, ps.map V.int, rfl, hl H s, fun D hD => lc_it walk_enum (fun i H' => Hs F B Y (c D (.lst ((en f (ps.take i)).map V.int)) :: L) H' Z) (s.new hD _) (fun i H' _ q => hl _ q.tl) (fun i x H1 H2 hi p y => by
    obtain ⟨T, u, v, rfl, nT, rfl, e1, e2⟩ := y
    cases e1
    have e2 : (ps.map V.int)[i]? = some v := e2
    rw [List.getElem?_map] at e2
    cases e : ps[i]? with
    | none => rw [e] at e2; cases e2
    | some n =>
      rw [e] at e2; cases e2
      have p2 := p.new nT (.tup [.int (i : Nat), .int n])
      refine ⟨T, [.int (i : Nat), .int n], rfl, SqT.of (p2.mem 0 rfl), rfl, _, _, rfl, _, _, rfl, rfl, ?_⟩
      refine ⟨hw _ _, ?_⟩
      simp only [tYes, if_true]
      have e1 : ps.take (i + 1) = ps.take i ++ [n] := by rw [List.take_add_one, e]; rfl
      have hlt := (List.getElem?_eq_some_iff.mp e).1
      have hln : (ps.take i).length = i := by rw [List.length_take]; omega
      refine he i n _ e p2.tl.tl _ ⟨_, p2.tl.mem 0 rfl, sz2 (by rw [List.length_map, en_len, hln]; omega), ?_⟩
      rw [e1, en_snoc, hln, List.map_append]
      exact p2.tl.wr 0 _ rfl) (fun H' q => k D H' (by rwa [List.length_map, List.take_length] at q))⟩
theorem ix_listK {X : Cx} {K : PySem.W.Frag} (h : X.K = K) : IxR X (rIxL K) := h ▸ ix_list
theorem ix_tupK {X : Cx} {K : PySem.W.Frag} (h : X.K = K) : IxR X (rIxT K) := h ▸ ix_tup
theorem op_in_seqK {X : Cx} {K : PySem.W.Frag} (h : X.K = K) : OpR X (compareOp .In) (rIn K false) := h ▸ op_in_seq
theorem op_notIn_seqK {X : Cx} {K : PySem.W.Frag} (h : X.K = K) : OpR X (compareOp .NotIn) (rIn K true) := h ▸ op_notIn_seq
def gb (bs : List Bool) (i : Int) : Bool := bs.getD i.toNat false
theorem dps_bools_eq : ∀ {bs : List Bool} {vs : List V}, DpAll K Z vs (bs.map PyData.bool) → vs = bs.map V.bl
  | [], _, h => by cases h; rfl
  | b :: r, _, h => by
    cases h with
    | cons p q => rw [dps_bools_eq q]; cases p; rfl
theorem at_db {bs : List Bool} {vs : List V} {i : Int} (h : DpAll K Z vs (bs.map PyData.bool)) (h0 : 0 ≤ i) (h1 : i < (bs.length : Int)) : atI vs i = some (V.bl (gb bs i)) := by
  rw [dps_bools_eq h]
  obtain ⟨n, rfl⟩ := Int.eq_ofNat_of_zero_le h0
  refine atI_nat ?_
  have hn : n < bs.length := by omega
  rw [List.getElem?_map, List.getElem?_eq_getElem hn]
  unfold gb
  simp [hn]
theorem gb_set {bs : List Bool} {i k : Int} (h0 : 0 ≤ i) (h1 : i < (bs.length : Int)) (h2 : 0 ≤ k) : gb (bs.set i.toNat true) k = (decide (k = i) || gb bs k) := by
  unfold gb
  rw [List.getD_eq_getElem?_getD, List.getElem?_set, List.getD_eq_getElem?_getD]
  by_cases e : k = i
  · subst e
    rw [if_pos rfl, if_pos (by omega)]; simp
  · rw [if_neg (by omega)]; simp [e]
end
end G

/-! ### max of a list -/
namespace G
open PySem PySem.Spec PyProof.Rows L2
def mxI : List Int → Int
  | [] => 0
  | [n] => n
  | n :: m :: r => max n (mxI (m :: r))
theorem mxI_spec : ∀ {ns : List Int}, ns ≠ [] → mxI ns ∈ ns ∧ ∀ y ∈ ns, y ≤ mxI ns
  | [], h => absurd rfl h
  | [n], _ => ⟨List.mem_singleton.mpr rfl, fun y hy => Int.le_of_eq (List.mem_singleton.mp hy)⟩
  | n :: m :: r, _ => by
    have ⟨h1, h2⟩ := mxI_spec (ns := m :: r) (by simp)
    unfold mxI
    by_cases h : n ≤ mxI (m :: r)
    · rw [Int.max_eq_right h]
      exact ⟨List.mem_cons_of_mem _ h1, fun y hy => (List.mem_cons.mp hy).elim (fun e => e ▸ h) (h2 y)⟩
    · rw [Int.max_eq_left (by omega)]
      exact ⟨List.mem_cons_self, fun y hy => (List.mem_cons.mp hy).elim (fun e => Int.le_of_eq e) (fun z => Int.le_trans (h2 y z) (by omega))⟩
theorem vmax {K : PySem.W.Frag} {σ : L2.St} {H : Hp} {ta : TE} {a : Addr} {ns : List Int} (h : SqL K H a (ns.map V.int)) (h0 : 0 < ns.length) (ha : Val ta σ H (.ref a)) : Val (tCB (rMax K) (tCons ta tNil)) σ H (.int (mxI ns)) :=
  fun _ q => ha _ ⟨a, ns, rfl, h, h0, fun m hm hle => by
    have ⟨h1, h2⟩ := mxI_spec (ns := ns) (fun z => by rw [z] at h0; exact absurd h0 (by decide))
    rwa [Int.le_antisymm (h2 m hm) (hle _ h1)]⟩
end G

/-! ### None or a list of ints -/
namespace G
open PySem PySem.Spec PyProof.Rows L2
def optD : Option (List Int) → PyData
  | none => .none
  | some ns => .list (ns.map PyData.int)
/-- a value that is None, or a list of its own -/
def ol (v : V) (o : Option (List Int)) : As := ⟨fun S _ H => (o = none ∧ v = .non) ∨ ∃ ns p, o = some ns ∧ v = .ref p ∧ S p ∧ H p = some (.lst (ns.map V.int)), false,
  fun _ k h => h.imp id fun ⟨ns, p, h1, h2, h3, h4⟩ => ⟨ns, p, h1, h2, h3, k _ _ h3 h4⟩, fun h => nomatch h⟩
section
variable {F : Addr → Prop} {B Y H Z : Hp} {L : List As} {K : PySem.W.Frag} {v : V} {o : Option (List Int)} {ns : List Int} {p : Addr} {σ : L2.St} {ta te1 te2 : TE}
theorem Hs.old (s : Hs F B Y L H Z) (i : Nat) (h : L[i]? = some (ol v o)) : Dp K H v (optD o) := by
  obtain ⟨S, w, _⟩ := s.at i h
  rcases w with ⟨rfl, rfl⟩ | ⟨ns, p, rfl, rfl, _, h4⟩
  · exact .non
  · exact .lst (SqL.of h4) (dps_ints ns)
theorem opt_non (h : Dp K H v (optD o)) : decide (v = V.non) = decide (o = none) := by
  cases o with
  | none => cases h; simp
  | some ns => cases h; simp
theorem isN_opt (o : Option (List Int)) : (isN (optD o) = true) ↔ o = none := by cases o <;> simp [optD, isN]
theorem visOL (h : Dp K H v (optD o)) (ha : Val ta σ H v) : Val (tOp rIsN ta (tC .non)) σ H (.bl (decide (o = none))) := by
  have := visN ha
  rwa [opt_non h] at this
theorem vnotOL (h : Dp K H v (optD o)) (ha : Val ta σ H v) : Val (tOp rNotN ta (tC .non)) σ H (.bl (decide (o ≠ none))) := by
  have := vnotN ha
  rwa [show decide (v ≠ V.non) = decide (o ≠ none) from by rw [← dec_not, ← dec_not, opt_non h]] at this
theorem opt_some (h : o ≠ none) : ∃ ns, o = some ns := by
  cases o with
  | none => exact (h rfl).elim
  | some ns => exact ⟨ns, rfl⟩
theorem Hs.olc (s : Hs F B Y L H Z) (i : Nat) (h : L[i]? = some (ol v o)) (e : o = some ns) : ∃ p, v = .ref p ∧ Hs F B Y (L.set i (c p (.lst (ns.map V.int)))) H Z := by
  obtain ⟨S, w, _⟩ := s.at i h
  rcases w with ⟨h1, _⟩ | ⟨ms, p, h1, h2, _, _⟩
  · rw [e] at h1; cases h1
  · refine ⟨p, h2, s.as i _ _ h fun S w => ?_⟩
    rcases w with ⟨h1, _⟩ | ⟨ms, q, h1, h3, h4, h5⟩
    · rw [e] at h1; cases h1
    · rw [h2] at h3; cases h3
      rw [e] at h1; cases h1
      exact ⟨h4, h5⟩
theorem Hs.olmk (s : Hs F B Y L H Z) (i : Nat) (h : L[i]? = some (c p (.lst (ns.map V.int)))) : Hs F B Y (L.set i (ol (.ref p) (some ns))) H Z :=
  s.as i _ _ h fun _ w => .inr ⟨ns, p, rfl, rfl, w.1, w.2⟩
theorem Hs.olfz (K : PySem.W.Frag) (s : Hs F B Y L H Z) (i : Nat) (h : L[i]? = some (ol v o)) : ∃ Z', Hs F B Y (L.set i (G.dat K v (optD o))) H Z' := by
  cases o with
  | none => exact ⟨Z, s.as i _ _ h fun S w => by
      rcases w with ⟨_, rfl⟩ | ⟨ms, q, h1, _⟩
      · exact .non
      · cases h1⟩
  | some ns =>
    obtain ⟨p, rfl, s1⟩ := s.olc i h rfl
    have hi := (List.getElem?_eq_some_iff.mp h).1
    have s2 := s1.frz i (p := p) (o := .lst (ns.map V.int)) (by rw [List.getElem?_set_self hi])
    have s3 := s2.as i _ (G.dat K (.ref p) (optD (some ns))) (by rw [List.getElem?_set_self (by rw [List.length_set]; exact hi)]) (fun _ w => .lst (SqL.of w) (dps_ints ns))
    rw [List.set_set, List.set_set] at s3
    exact ⟨_, s3⟩
theorem c_optcp {Q : VK} (s : Hs F B Y L H Z) (h1 : Val te1 σ H v) (h2 : Val te2 σ H v) (hd : Dp K H v (optD o)) (k : ∀ y H' Z', Hs F B Y (ol y o :: L) H' Z' → Q y H') :
    tIf (tTest (tOp rIsN te1 (tC .non))) (tC .non) (tCB (fun xs H Q => ∃ p ys, xs = [.ref p] ∧ (SqL K H p ys ∨ SqT K H p ys) ∧ ∀ l, H l = none → Q (.ref l) (upd H l (.lst ys))) (tCons te2 tNil)) σ H Q := by
  refine vtest (visOL hd h1) _ ?_
  cases o with
  | none => exact k .non H Z (s.add _ (.inl ⟨rfl, rfl⟩))
  | some ns =>
    rw [decide_eq_false (by simp), if_neg Bool.false_ne_true]
    cases hd with
    | lst hs hv =>
      have := dps_ints_eq hv
      subst this
      refine h2 _ ⟨_, _, rfl, .inl hs, fun p np => ?_⟩
      have s1 := (s.new np (.lst (ns.map V.int))).olmk 0 rfl
      exact k (.ref p) _ Z s1
theorem tyx_l {xs : List V} (h : SqL K H p xs) : TyX K H (.ref p) (.type "list") := by
  rcases h with (h | ⟨o, h⟩) | ⟨o, its, n, h1, h2, _⟩
  · exact .base (.lst h)
  · exact .base (.frz h)
  · exact .kList h1 h2
theorem tyx_t {xs : List V} (h : SqT K H p xs) : TyX K H (.ref p) (.type "tuple") := by
  rcases h with (h | ⟨o, h⟩) | ⟨o, its, n, h1, h2, _⟩
  · exact .base (.tup h)
  · exact .fTuple h
  · exact .kTuple h1 h2
theorem tyx_dl {ds : List PyData} (h : Dp K H v (.list ds)) : TyX K H v (.type "list") := by
  cases h with
  | lst s q => exact tyx_l s
theorem tyx_dt {ds : List PyData} (h : Dp K H v (.tuple ds)) : TyX K H v (.type "tuple") := by
  cases h with
  | tup s q => exact tyx_t s
theorem dok_opt (o : Option (List Int)) : dok 1 (optD o) = true := by
  cases o with
  | none => rfl
  | some ns => exact dok_list (dok_ints 0 ns)
end
end G

/-! ### texts: times, within texts, one sign of a text -/
namespace G
open PySem PySem.Spec PyProof.Rows L2
abbrev rMulS : R2 := fun x y H Q => ∃ (a : Str) (n : Int), x = .str a ∧ y = .int n ∧ PySem.MulOk a n ∧ Q (.str (Txt.mul a n)) H
theorem op_mulS {X : Cx} : OpR X (binaryOp .Mult) rMulS := by
  rintro pins s σ H x y v u Q I rx ry ⟨a, n, rfl, rfl, ok, q⟩
  have ⟨_, e1⟩ := rx
  have ⟨_, e2⟩ := ry
  subst e1
  subst e2
  exact PySem.SB.mul ok fun _ _ => ⟨.str (Txt.mul a n), H, I.tok _, ⟨_, rfl⟩, q⟩
section
variable {K : PySem.W.Frag} {H : Hp} {σ : L2.St} {ta tb : TE} {a b : List Nat} {n : Int} {p : Addr}
theorem vmulS (hm : PySem.MulOk (sO a) n) (e : Txt.mul (sO a) n = sO b) (ha : Val ta σ H (.str (sO a))) (hb : Val tb σ H (.int n)) : Val (tOp rMulS ta tb) σ H (.str (sO b)) :=
  fun _ q => ha _ (hb _ ⟨_, _, rfl, rfl, hm, by rw [e]; exact q⟩)
theorem inV_txt (a : List Nat) (ts : List (List Nat)) : inV (V.str (sO a)) (ts.map fun t => V.str (sO t)) = decide (a ∈ ts) := by
  induction ts with
  | nil => rfl
  | cons t r ih =>
    have e : inV (V.str (sO a)) ((t :: r).map fun t => V.str (sO t)) = (sO t == sO a || inV (V.str (sO a)) (r.map fun t => V.str (sO t))) := rfl
    rw [e, ih]
    by_cases h : t = a
    · subst h; simp
    · have h2 : (sO t == sO a) = false := beq_eq_false_iff_ne.mpr fun z => h (sO_inj z)
      have h3 : ¬ a = t := fun z => h z.symm
      simp [h2, h3]
theorem flat_txt (ts : List (List Nat)) : (ts.map fun t => V.str (sO t)).all flatV = true := by
  induction ts with
  | nil => rfl
  | cons t r ih => exact ih
theorem r_inS {ts : List (List Nat)} {xs : List V} {Q : VK} (e : xs = ts.map fun t => V.str (sO t)) (h : SqL K H p xs ∨ SqT K H p xs) (k : Q (.bl (decide (a ∈ ts))) H) : rIn K false (.str (sO a)) (.ref p) H Q := by
  subst e
  exact ⟨p, _, rfl, h, rfl, flat_txt _, by
    show Q (.bl (inV (V.str (sO a)) _)) H
    rw [inV_txt]; exact k⟩
abbrev rInC : R2 := fun x y H Q => ∃ (c : Nat) (z : Str), x = .str ⟨#[c]⟩ ∧ y = .str z ∧ Q (.bl (decide (c ∈ z.cps.toList))) H
abbrev rNinC : R2 := fun x y H Q => ∃ (c : Nat) (z : Str), x = .str ⟨#[c]⟩ ∧ y = .str z ∧ Q (.bl (!decide (c ∈ z.cps.toList))) H
theorem vinC {c : Nat} (ha : Val ta σ H (.str (sO [c]))) (hb : Val tb σ H (.str (sO b))) : Val (tOp rInC ta tb) σ H (.bl (decide (c ∈ b))) := fun _ q => ha _ (hb _ ⟨c, sO b, rfl, rfl, q⟩)
theorem vninC {c : Nat} (ha : Val ta σ H (.str (sO [c]))) (hb : Val tb σ H (.str (sO b))) : Val (tOp rNinC ta tb) σ H (.bl (decide (¬ c ∈ b))) := fun _ q => ha _ (hb _ ⟨c, sO b, rfl, rfl, by rw [dec_not]; exact q⟩)
end
end G
namespace G
open PySem PySem.Spec PyProof.Rows L2
/-! a loop over a text that a call gives; one of several texts -/
def kForZ (g : TG) (tu tz : TS) (D : Ends) (σ : L2.St) : VK := fun x H1 => tSeq (tFor (iStr (tC x)) g tu) tz D σ H1
theorem c_forZ {g : TG} {tu tz : TS} {D : Ends} {σ : L2.St} {H : Hp} {te : TE} (k : te σ H (kForZ g tu tz D σ)) : tSeq (tFor (iStr te) g tu) tz D σ H := k
theorem k_forZ {g : TG} {tu tz : TS} {D : Ends} {σ : L2.St} {H : Hp} {x : V} (k : tSeq (tFor (iStr (tC x)) g tu) tz D σ H) : kForZ g tu tz D σ x H := k
def gs (ts : List (List Nat)) (i : Int) : List Nat := ts.getD i.toNat []
theorem at_gs {ts : List (List Nat)} {i : Int} (h0 : 0 ≤ i) (h1 : i < (ts.length : Int)) : atI (ts.map fun t => V.str (sO t)) i = some (V.str (sO (gs ts i))) := by
  obtain ⟨n, rfl⟩ := Int.eq_ofNat_of_zero_le h0
  have hn : n < ts.length := by omega
  refine atI_nat ?_
  unfold gs
  simp [hn]
theorem gs_mem {ts : List (List Nat)} {i : Int} (h0 : 0 ≤ i) (h1 : i < (ts.length : Int)) : gs ts i ∈ ts := by
  have hn : i.toNat < ts.length := by omega
  unfold gs
  rw [List.getD_eq_getElem?_getD, List.getElem?_eq_getElem hn]
  exact List.getElem_mem hn
end G
namespace G
open PySem PySem.Spec PyProof.Rows L2
theorem Hs.cgh {F : Addr → Prop} {B Y H Z : Hp} {L : List As} {p : Addr} {o o' : HO} (e : o = o') (s : Hs F B Y (c p o' :: L) H Z) : Hs F B Y (c p o :: L) H Z := e ▸ s
theorem gs_le {ts : List (List Nat)} {i : Int} {n : Nat} (h : ∀ t ∈ ts, t.length ≤ n) : (gs ts i).length ≤ n := by
  unfold gs
  rw [List.getD_eq_getElem?_getD]
  cases e : ts[i.toNat]? with
  | none => exact Nat.zero_le _
  | some t => exact h t (List.mem_of_getElem? e)
theorem cutI_le (a : List Int) (lo hi : Int) : (cutI a lo hi).length ≤ a.length := by
  unfold cutI
  rw [List.length_take, List.length_drop]
  omega
end G

/-! ### xs[a:] = ys of another list -/
namespace G
open PySem PySem.Spec PyProof.Rows L2
open PySem.SeqAt PySem.MeetsSeq PySem.MeetsSeq2 PySem.MeetsSeq3 HT
open PySem.AutoSeq1 (wpAny_loadPart')
section
variable {prog : Program} {w : World} {A : Around} {E : Value → Shared → Prop} {s : Shared}
theorem parts_of {M : Model} {sl : Addr} {vl : Value} {o : Option Int} {Q : Value × Value × Value → Shared → Prop} (hs : s.heap.IsSliceOf sl vl .none .none) (first : IsPart vl o) (q : Q (rawPart o, .none, .none) s) : wpAny M A (Builtin.List.listSliceParts (.ref sl)) Q E s := by
  have ⟨_, at_, _, f⟩ := hs
  rw [listSliceParts_eq]
  apply wpAny_bind; apply wpAny_field at_ f rfl; apply wpAny_bind; apply wpAny_listPart .none
  apply PySem.W.KFB.if_not (by rfl)
  apply wpAny_bind; apply wpAny_field at_ f rfl; apply wpAny_bind; apply wpAny_listPart first
  apply wpAny_bind; apply wpAny_field at_ f rfl; apply wpAny_bind; apply wpAny_listPart .none
  exact wpAny_pure q
theorem noIndexL {M : Model} {sl : Addr} {Q : Option Int → Shared → Prop} (T : s.TypeIs (.ref sl) "slice") (q : Q none s) : wpAny M A (Builtin.List.listSubscript? (.ref sl)) Q E s := by
  unfold Builtin.List.listSubscript?
  apply wpAny_bind; apply wpAny_specialOf T slice_no_index
  simp only [Option.isNone_none, if_true]
  exact wpAny_pure q
theorem items_of {M : Model} {b : Addr} {msg : String} {new : Array Value} {n : Nat} {Q : Array Value → Shared → Prop} (from_ : s.heap.get? b = some { cls := .type "list", data := .seq new n }) (q : Q new s) : wpAny M A (Builtin.List.listAllItems (.ref b) msg) Q E s := by
  unfold Builtin.List.listAllItems
  apply wpAny_bind; apply wpAny_typeOf (PySem.IsL.isList from_).typeIs
  apply PySem.W.KFB.if_so (by decide)
  unfold Builtin.List.listItems
  apply wpAny_bind; apply wpAny_seqItems from_ rfl
  exact wpAny_pure q
theorem bounds_tail {a n : Nat} (le : a ≤ n) : sliceBounds (some (a : Int)) none none n = ((a : Int), (n : Int), 1) := by
  have : ¬ ((a : Int) < 0) := by omega
  simp [sliceBounds, this]
  omega
theorem put_tail {l b sl : Addr} {old new : Array Value} {n n2 a : Nat} {vl : Value} {Q : Unit → Shared → Prop} (at_ : s.heap.get? l = some { cls := .type "list", data := .seq old n }) (from_ : s.heap.get? b = some { cls := .type "list", data := .seq new n2 }) (ne : l ≠ b)
    (hs : s.heap.IsSliceOf sl vl .none .none) (first : IsPart vl (some (a : Int))) (le : a ≤ old.size) (sz : old.size + new.size ≤ sizeLine) (q : Q () { s with heap := s.heap.update l (Obj.mapSeq fun xs => xs.extract 0 a ++ new ++ xs.extract old.size xs.size) }) :
    wpAny (model prog w) A (setItem (.ref l) (.ref sl) (.ref b)) Q E s := by
  have L := PySem.IsL.isList at_
  have R := PySem.IsL.isList from_
  have ⟨os, hos, hcs, hds⟩ := hs
  have T : s.TypeIs (.ref sl) "slice" := ⟨os, hos, hcs⟩
  unfold setItem
  have other : Builtin.List.listSameRef (.ref l) (.ref b) = false := beq_eq_false_iff_ne.mpr ne
  have ends : sliceIndices (rawPart (some (a : Int))) .none .none old.size = pure ((a : Int), (old.size : Int), (1 : Int)) := (sliceIndices_raw (some (a : Int)) none none old.size (by simp)).trans (congrArg (pure : Int × Int × Int → Sem (Int × Int × Int)) (bounds_tail le))
  have fits : Builtin.List.listTooLong (old.size + new.size) = false := by
    have := notLongL sz
    simpa using this
  have mx : (max (a : Int) (old.size : Int)).toNat = old.size := by omega
  have room : ((fun xs : Array Value => xs.extract 0 (a : Int).toNat ++ new ++ xs.extract (max (a : Int) (old.size : Int)).toNat) old).size ≤ sizeLine + 1 := by
    simp only [Array.size_append, Array.size_extract]
    omega
  wp_walk using wpAny_sequenceKey L.typeIs (by decide), wpAny_callSpecial?_slot (name := Str.ofString "__setitem__") L.typeIs slot_list_setitem (wpAny_call_entry slot_list_setitem L.typeIs entry_list_setitem ?_ (args_list_setitem _ _ _)), noIndexL T, wpAny_typeOf T, parts_of hs first, items_of from_, wpAny_seqItems at_ rfl, wpAny_updateSeq (hz := Nat.le_trans (Nat.le_add_right _ _) sz) (_hz' := room) at_ rfl
  exact ⟨.none, rfl, wpAny_pure (by rw [mx, Int.toNat_natCast]; exact q)⟩
end
section
variable {X : Cx} {σ : L2.St} {H : Hp}
def gTail (to te : TE) : TG := fun v σ H Q => to σ H fun x H1 => te σ H1 fun y H2 => ∃ (l b : Addr) (xs ys : List V) (a : Int), x = .ref l ∧ y = .int a ∧ v = .ref b ∧ H2 l = some (.lst xs) ∧ H2 b = some (.lst ys) ∧ l ≠ b ∧ 0 ≤ a ∧ a ≤ (xs.length : Int) ∧
  xs.length + ys.length ≤ sizeLine ∧ Q σ (upd H2 l (.lst (xs.take a.toNat ++ ys)))
theorem pg_tail {o e : Expr} {to te : TE} {pos p2 : Pos} (ho : PE X o to) (he : PE X e te)
    (same : ∀ u, assign (.Subscript o (.Slice (some e) none none p2) pos) X.env u = (holding [u] (eval o X.env) >>= fun w => holding [u, w] (eval (.Slice (some e) none none p2) X.env) >>= fun z => standAt pos >>= fun _ => holding [u, w, z] (setItem w z u) >>= fun _ => release [z, u, w] []) := by intro _; rfl) : PG X (.Subscript o (.Slice (some e) none none p2) pos) (gTail to te) where
  run pins s σ H v u Q I r h := by
    rw [same]
    apply wpAny_bind; apply wpAny_holding; apply thn (ho.run pins s σ H _ I h)
    rintro w s1 ⟨x, H1, I1, r1, q1⟩
    apply wpAny_bind; apply wpAny_holding
    refine wpAny_Slice (thn (he.run pins s1 σ H1 _ I1 q1) fun f s2 ⟨y, H2, I2, ry, l, b, xs, ys, a, e1, e2, e3, hl, hb, ne, a0, a1, hz, q3⟩ => ?_)
    subst e1 e2 e3
    obtain ⟨t, rfl⟩ := ry
    rw [evalPart_none]
    apply wpAny_pure
    apply wpAny_pure
    have ew : w = .ref l := r1
    have eu : u = .ref b := r
    subst ew eu
    apply wpAny_bind; apply wpAny_standAt; apply wpAny_bind; apply wpAny_holding
    have I3 : Inv X pins σ H2 { s2 with heap := s2.heap.push { cls := .type "slice", data := .fields #[.int a t, .none, .none] } } := I2.kept (t' := s2.toks) fun _ _ z => Heap.get?_push_of_some _ z
    have ⟨c1, its, n1, v1, _, at_⟩ := I3.lstM hl
    have ⟨c2, new, n2, v2, _, from_⟩ := I3.lstM hb
    obtain ⟨m, rfl⟩ := Int.eq_ofNat_of_zero_le a0
    have len1 : its.toArray.size = xs.length := by rw [List.size_toArray]; exact v1.length.symm
    have len2 : new.toArray.size = ys.length := by rw [List.size_toArray]; exact v2.length.symm
    refine put_tail at_ from_ ne (Heap.IsSliceOf.new ..) (.int _ _) (by omega) (by omega) ?_
    have cut : its.toArray.extract 0 m ++ new.toArray ++ its.toArray.extract its.toArray.size its.toArray.size = (its.take m ++ new).toArray := by simp
    apply wpAny_release
    refine ⟨σ, _, I3.lset (t' := s2.toks) hl at_ cut (Vals.append (v1.take _) v2) ?_, q3⟩
    rw [List.length_append, List.length_take]
    omega
end
section
variable {F : Addr → Prop} {B Y H Z : Hp} {L : List As} {p q : Addr} {o o' : HO} {σ : L2.St} {to te tv : TE} {D : Ends} {tz : TS} {v : V}
theorem Hs.apart (s : Hs F B Y L H Z) (i j : Nat) (hi : L[i]? = some (c p o)) (hj : L[j]? = some (c q o')) (ne : i ≠ j) : p ≠ q := by
  obtain ⟨S, w, _⟩ := s.own
  rintro rfl
  exact ne (w.dj i j p (w.on i _ hi).1 (w.on j _ hj).1)
theorem t_tail {a : Int} {xs ys : List Int} {Q : L2.St → Hp → Prop} (hl : H p = some (.lst (xs.map V.int))) (hb : H q = some (.lst (ys.map V.int))) (ne : p ≠ q) (ho : Val to σ H (.ref p)) (he : Val te σ H (.int a)) (h0 : 0 ≤ a) (h1 : a ≤ (xs.length : Int)) (hz : xs.length + ys.length ≤ 1000000)
    (k : Q σ (upd H p (.lst ((xs.take a.toNat ++ ys).map V.int)))) : gTail to te (.ref q) σ H Q :=
  ho _ (he _ ⟨p, q, _, _, a, rfl, rfl, rfl, hl, hb, ne, h0, by rw [List.length_map]; exact h1, by rw [List.length_map, List.length_map]; exact sz1 hz, by rw [← List.map_take, ← List.map_append]; exact k⟩)
end
end G

namespace X
open PySem PySem.Spec PyProof.Rows L2 G
def topS (i : Nat) : Stmt := PySem.Challenge.pw_segmentfs_k49_entries_as_octets.main.body.getD i (.Pass ⟨0, 0, 0, 0⟩)
abbrev st_number_octets : Stmt := topS 1
abbrev st_number_of : Stmt := topS 2
abbrev st_is_code : Stmt := topS 7
abbrev st_is_text : Stmt := topS 8
abbrev st_octets_of : Stmt := topS 9
abbrev st_char_of : Stmt := topS 10
abbrev st_text_of : Stmt := topS 11
abbrev st_is_name : Stmt := topS 16
abbrev st_encode_entry : Stmt := topS 17
abbrev st_decode_entry : Stmt := topS 18
abbrev st__law_row : Stmt := topS 20
abbrev st__law_is_integer : Stmt := topS 21
abbrev st__law_char : Stmt := topS 22
abbrev st__law_text : Stmt := topS 23
abbrev st__law_name : Stmt := topS 24
abbrev st__law_octets : Stmt := topS 25
abbrev st__law_good : Stmt := topS 26
abbrev st__law_reads : Stmt := topS 27
abbrev st__law_is : Stmt := topS 28
abbrev st__law_names : Stmt := topS 29
abbrev st_law : Stmt := topS 30
structure Ads where
  a_number_octets : Addr
  d_number_octets : FuncData
  a_number_of : Addr
  d_number_of : FuncData
  a_is_code : Addr
  d_is_code : FuncData
  a_is_text : Addr
  d_is_text : FuncData
  a_octets_of : Addr
  d_octets_of : FuncData
  a_char_of : Addr
  d_char_of : FuncData
  a_text_of : Addr
  d_text_of : FuncData
  a_is_name : Addr
  d_is_name : FuncData
  a_encode_entry : Addr
  d_encode_entry : FuncData
  a_decode_entry : Addr
  d_decode_entry : FuncData
  a__law_row : Addr
  d__law_row : FuncData
  a__law_is_integer : Addr
  d__law_is_integer : FuncData
  a__law_char : Addr
  d__law_char : FuncData
  a__law_text : Addr
  d__law_text : FuncData
  a__law_name : Addr
  d__law_name : FuncData
  a__law_octets : Addr
  d__law_octets : FuncData
  a__law_good : Addr
  d__law_good : FuncData
  a__law_reads : Addr
  d__law_reads : FuncData
  a__law_is : Addr
  d__law_is : FuncData
  a__law_names : Addr
  d__law_names : FuncData
  a_law : Addr
  d_law : FuncData
  t_ENTRY_OCTETS : Tok
  t_HIGH : Tok
  t_LOW : Tok
  t_MOST_SIGNS : Tok
  t_NAME_START : Tok
  t_PERCENT : Tok
structure Txt (K : PySem.W.Frag) (mg : Str → Option Value) (A : Ads) : Prop where
  F_number_octets : Fun K "number_octets" "number_octets" st_number_octets A.a_number_octets A.d_number_octets
  b_number_octets : Binds K A.d_number_octets ["number", "count"] []
  g_number_octets : mg "number_octets" = some (.ref A.a_number_octets)
  F_number_of : Fun K "number_of" "number_of" st_number_of A.a_number_of A.d_number_of
  b_number_of : Binds K A.d_number_of ["octets"] []
  g_number_of : mg "number_of" = some (.ref A.a_number_of)
  F_is_code : Fun K "is_code" "is_code" st_is_code A.a_is_code A.d_is_code
  b_is_code : Binds K A.d_is_code ["code"] []
  g_is_code : mg "is_code" = some (.ref A.a_is_code)
  F_is_text : Fun K "is_text" "is_text" st_is_text A.a_is_text A.d_is_text
  b_is_text : Binds K A.d_is_text ["text"] []
  g_is_text : mg "is_text" = some (.ref A.a_is_text)
  F_octets_of : Fun K "octets_of" "octets_of" st_octets_of A.a_octets_of A.d_octets_of
  b_octets_of : Binds K A.d_octets_of ["text"] []
  g_octets_of : mg "octets_of" = some (.ref A.a_octets_of)
  F_char_of : Fun K "char_of" "char_of" st_char_of A.a_char_of A.d_char_of
  b_char_of : Binds K A.d_char_of ["code"] []
  g_char_of : mg "char_of" = some (.ref A.a_char_of)
  F_text_of : Fun K "text_of" "text_of" st_text_of A.a_text_of A.d_text_of
  b_text_of : Binds K A.d_text_of ["octets"] []
  g_text_of : mg "text_of" = some (.ref A.a_text_of)
  F_is_name : Fun K "is_name" "is_name" st_is_name A.a_is_name A.d_is_name
  b_is_name : Binds K A.d_is_name ["text"] []
  g_is_name : mg "is_name" = some (.ref A.a_is_name)
  F_encode_entry : Fun K "encode_entry" "encode_entry" st_encode_entry A.a_encode_entry A.d_encode_entry
  b_encode_entry : Binds K A.d_encode_entry ["name", "number"] []
  g_encode_entry : mg "encode_entry" = some (.ref A.a_encode_entry)
  F_decode_entry : Fun K "decode_entry" "decode_entry" st_decode_entry A.a_decode_entry A.d_decode_entry
  b_decode_entry : Binds K A.d_decode_entry ["octets"] []
  g_decode_entry : mg "decode_entry" = some (.ref A.a_decode_entry)
  F__law_row : Fun K "_law_row" "_law_row" st__law_row A.a__law_row A.d__law_row
  b__law_row : Binds K A.d__law_row ["_law_script", "_law_k"] []
  g__law_row : mg "_law_row" = some (.ref A.a__law_row)
  F__law_is_integer : Fun K "_law_is_integer" "_law_is_integer" st__law_is_integer A.a__law_is_integer A.d__law_is_integer
  b__law_is_integer : Binds K A.d__law_is_integer ["_law_actual"] []
  g__law_is_integer : mg "_law_is_integer" = some (.ref A.a__law_is_integer)
  F__law_char : Fun K "_law_char" "_law_char" st__law_char A.a__law_char A.d__law_char
  b__law_char : Binds K A.d__law_char ["_law_number"] []
  g__law_char : mg "_law_char" = some (.ref A.a__law_char)
  F__law_text : Fun K "_law_text" "_law_text" st__law_text A.a__law_text A.d__law_text
  b__law_text : Binds K A.d__law_text ["_law_number", "_law_count"] []
  g__law_text : mg "_law_text" = some (.ref A.a__law_text)
  F__law_name : Fun K "_law_name" "_law_name" st__law_name A.a__law_name A.d__law_name
  b__law_name : Binds K A.d__law_name ["_law_number"] []
  g__law_name : mg "_law_name" = some (.ref A.a__law_name)
  F__law_octets : Fun K "_law_octets" "_law_octets" st__law_octets A.a__law_octets A.d__law_octets
  b__law_octets : Binds K A.d__law_octets ["_law_name_here", "_law_number"] []
  g__law_octets : mg "_law_octets" = some (.ref A.a__law_octets)
  F__law_good : Fun K "_law_good" "_law_good" st__law_good A.a__law_good A.d__law_good
  b__law_good : Binds K A.d__law_good ["_law_octets_here"] []
  g__law_good : mg "_law_good" = some (.ref A.a__law_good)
  F__law_reads : Fun K "_law_reads" "_law_reads" st__law_reads A.a__law_reads A.d__law_reads
  b__law_reads : Binds K A.d__law_reads ["_law_octets_here"] []
  g__law_reads : mg "_law_reads" = some (.ref A.a__law_reads)
  F__law_is : Fun K "_law_is" "_law_is" st__law_is A.a__law_is A.d__law_is
  b__law_is : Binds K A.d__law_is ["_law_actual", "_law_due"] []
  g__law_is : mg "_law_is" = some (.ref A.a__law_is)
  F__law_names : Fun K "_law_names" "_law_names" st__law_names A.a__law_names A.d__law_names
  b__law_names : Binds K A.d__law_names ["_law_number"] []
  g__law_names : mg "_law_names" = some (.ref A.a__law_names)
  F_law : Fun K "law" "law" st_law A.a_law A.d_law
  b_law : Binds K A.d_law ["_law_script"] []
  g_law : mg "law" = some (.ref A.a_law)
  k_ENTRY_OCTETS : mg "ENTRY_OCTETS" = some (.int 32 A.t_ENTRY_OCTETS)
  k_HIGH : mg "HIGH" = some (.str ("&'()*+,-./0123456789:;<=>?@ABCDEFGHIJKLMNOPQRSTUVWXYZ[\\]^_`abcdefghijklmnopqrstuvwxyz{|}~" : Str) A.t_HIGH)
  k_LOW : mg "LOW" = some (.str (" !\"#$" : Str) A.t_LOW)
  k_MOST_SIGNS : mg "MOST_SIGNS" = some (.int 28 A.t_MOST_SIGNS)
  k_NAME_START : mg "NAME_START" = some (.int 3 A.t_NAME_START)
  k_PERCENT : mg "PERCENT" = some (.int 37 A.t_PERCENT)
  z_all : mg "all" = none
  z_any : mg "any" = none
  z_bool : mg "bool" = none
  z_int : mg "int" = none
  z_isinstance : mg "isinstance" = none
  z_len : mg "len" = none
  z_list : mg "list" = none
  z_min : mg "min" = none
  z_ord : mg "ord" = none
  z_range : mg "range" = none
  z_reversed : mg "reversed" = none
  z_str : mg "str" = none
  z_tuple : mg "tuple" = none
theorem sc_number_octets : FnScope ["number", "count", "found", "_"] ["number", "count"] (defScope st_number_octets) := ⟨rfl, rfl, rfl, by decide +kernel, rfl, by decide +kernel, by decide +kernel⟩
theorem sc_number_of : FnScope ["octets", "total", "octet"] ["octets"] (defScope st_number_of) := ⟨rfl, rfl, rfl, by decide +kernel, rfl, by decide +kernel, by decide +kernel⟩
theorem sc_is_code : FnScope ["code"] ["code"] (defScope st_is_code) := ⟨rfl, rfl, rfl, by decide +kernel, rfl, by decide +kernel, by decide +kernel⟩
theorem sc_is_text : FnScope ["text", "char"] ["text"] (defScope st_is_text) := ⟨rfl, rfl, rfl, by decide +kernel, rfl, by decide +kernel, by decide +kernel⟩
theorem sc_octets_of : FnScope ["text", "char"] ["text"] (defScope st_octets_of) := ⟨rfl, rfl, rfl, by decide +kernel, rfl, by decide +kernel, by decide +kernel⟩
theorem sc_char_of : FnScope ["code"] ["code"] (defScope st_char_of) := ⟨rfl, rfl, rfl, by decide +kernel, rfl, by decide +kernel, by decide +kernel⟩
theorem sc_text_of : FnScope ["octets", "chars", "code"] ["octets"] (defScope st_text_of) := ⟨rfl, rfl, rfl, by decide +kernel, rfl, by decide +kernel, by decide +kernel⟩
theorem sc_is_name : FnScope ["text"] ["text"] (defScope st_is_name) := ⟨rfl, rfl, rfl, by decide +kernel, rfl, by decide +kernel, by decide +kernel⟩
theorem sc_encode_entry : FnScope ["name", "number", "octets"] ["name", "number"] (defScope st_encode_entry) := ⟨rfl, rfl, rfl, by decide +kernel, rfl, by decide +kernel, by decide +kernel⟩
theorem sc_decode_entry : FnScope ["octets", "number", "end", "name"] ["octets"] (defScope st_decode_entry) := ⟨rfl, rfl, rfl, by decide +kernel, rfl, by decide +kernel, by decide +kernel⟩
theorem sc__law_row : FnScope ["_law_script", "_law_k", "_law_cell", "_law_low", "_law_high"] ["_law_script", "_law_k"] (defScope st__law_row) := ⟨rfl, rfl, rfl, by decide +kernel, rfl, by decide +kernel, by decide +kernel⟩
theorem sc__law_is_integer : FnScope ["_law_actual"] ["_law_actual"] (defScope st__law_is_integer) := ⟨rfl, rfl, rfl, by decide +kernel, rfl, by decide +kernel, by decide +kernel⟩
theorem sc__law_char : FnScope ["_law_number", "_law_chars"] ["_law_number"] (defScope st__law_char) := ⟨rfl, rfl, rfl, by decide +kernel, rfl, by decide +kernel, by decide +kernel⟩
theorem sc__law_text : FnScope ["_law_number", "_law_count", "_law_text_here", "_law_k"] ["_law_number", "_law_count"] (defScope st__law_text) := ⟨rfl, rfl, rfl, by decide +kernel, rfl, by decide +kernel, by decide +kernel⟩
theorem sc__law_name : FnScope ["_law_number", "_law_text_here", "_law_char_here"] ["_law_number"] (defScope st__law_name) := ⟨rfl, rfl, rfl, by decide +kernel, rfl, by decide +kernel, by decide +kernel⟩
theorem sc__law_octets : FnScope ["_law_name_here", "_law_number", "_law_char_here"] ["_law_name_here", "_law_number"] (defScope st__law_octets) := ⟨rfl, rfl, rfl, by decide +kernel, rfl, by decide +kernel, by decide +kernel⟩
theorem sc__law_good : FnScope ["_law_octets_here", "_law_length", "_law_k", "_law_code"] ["_law_octets_here"] (defScope st__law_good) := ⟨rfl, rfl, rfl, by decide +kernel, rfl, by decide +kernel, by decide +kernel⟩
theorem sc__law_reads : FnScope ["_law_octets_here", "_law_passed", "_law_found"] ["_law_octets_here"] (defScope st__law_reads) := ⟨rfl, rfl, rfl, by decide +kernel, rfl, by decide +kernel, by decide +kernel⟩
theorem sc__law_is : FnScope ["_law_actual", "_law_due"] ["_law_actual", "_law_due"] (defScope st__law_is) := ⟨rfl, rfl, rfl, by decide +kernel, rfl, by decide +kernel, by decide +kernel⟩
theorem sc__law_names : FnScope ["_law_number", "_law_text_here", "_law_due"] ["_law_number"] (defScope st__law_names) := ⟨rfl, rfl, rfl, by decide +kernel, rfl, by decide +kernel, by decide +kernel⟩
theorem sc_law : FnScope ["_law_script", "_law_name_here", "_law_number", "_law_target", "_law_octets_here", "_law_row_here", "_law_at", "_law_k"] ["_law_script"] (defScope st_law) := ⟨rfl, rfl, rfl, by decide +kernel, rfl, by decide +kernel, by decide +kernel⟩

/-! ### mathematics of the law's helpers -/
def rwC0 (ns : List Int) (k : Int) : Int := if (ns.length : Int) > 0 then gi ns (k % (ns.length : Int)) else k
def rwC (ns : List Int) (k : Int) : Int := if rwC0 ns k < 0 then (-2) * rwC0 ns k - 1 else rwC0 ns k
def rwL (ns : List Int) (k : Int) : Int := (rwC ns k * 48271 + k * 69621 + 11) % 2147483647
def rwH (ns : List Int) (k : Int) : Int := (rwL ns k * 40692 + rwC ns k + k * 16807 + 5) % 2147483399
def rwM (ns : List Int) (k : Int) : Int := (rwL ns k * 69621 + rwH ns k * 7 + k) % 2147483647
def rowG (ns : List Int) (k : Int) : Int := if k < (ns.length : Int) ∧ rwC ns k ≥ 1000000000 then rwC ns k else rwH ns k * 2147483647 + rwM ns k
theorem rowG_nn (ns : List Int) (k : Int) : 0 ≤ rowG ns k := by
  unfold rowG
  split
  · omega
  · have h1 : 0 ≤ rwH ns k := Int.emod_nonneg _ (by decide)
    have h2 : 0 ≤ rwM ns k := Int.emod_nonneg _ (by decide)
    omega

/-! ### codes of texts -/
def Gd (c : Nat) : Prop := 32 ≤ c ∧ c ≤ 126 ∧ c ≠ 37
instance (c : Nat) : Decidable (Gd c) := by unfold Gd; infer_instance
def chs : List Nat := [32, 33, 34, 35, 36, 38, 39, 40, 41, 42, 43, 44, 45, 46, 47, 48, 49, 50, 51, 52, 53, 54, 55, 56, 57, 58, 59, 60, 61, 62, 63, 64, 65, 66, 67, 68, 69, 70, 71, 72, 73, 74, 75, 76, 77, 78, 79, 80, 81, 82, 83, 84, 85, 86, 87, 88, 89, 90, 91, 92, 93, 94, 95, 96, 97, 98, 99, 100, 101, 102, 103, 104, 105, 106, 107, 108, 109, 110, 111, 112, 113, 114, 115, 116, 117, 118, 119, 120, 121, 122, 123, 124, 125, 126]
theorem chs_gd : ∀ c ∈ chs, Gd c := by decide
def chF (n : Int) : Nat := gn chs (n % 94)
theorem chF_gd (n : Int) : Gd (chF n) := chs_gd _ (gn_mem (Int.emod_nonneg _ (by decide)) (by
  have h := Int.emod_lt_of_pos n (by decide : (0 : Int) < 94)
  have e : (chs.length : Int) = 94 := by decide
  omega))
theorem gd_app {xs : List Nat} {c : Nat} (h : ∀ d ∈ xs, Gd d) (hc : Gd c) : ∀ d ∈ xs ++ [c], Gd d := fun d hd => by
  rcases List.mem_append.mp hd with z | z
  · exact h d z
  · rw [List.mem_singleton.mp z]; exact hc

def dvN (n : Int) : Nat → Int
  | 0 => n
  | k + 1 => dvN n k / 256
def octN (n : Int) : Nat → List Int
  | 0 => []
  | k + 1 => octN n k ++ [dvN n k % 256]
def octI (n m : Int) : List Int := octN n m.toNat
theorem octN_len (n : Int) (k : Nat) : (octN n k).length = k := by
  induction k with
  | zero => rfl
  | succ k ih => rw [octN, List.length_append, ih]; rfl
local macro_rules | `(tactic| walk_at "side2") => `(tactic| first | (simp [X.octI, X.octN_len]; done) | (simp [X.octI, X.octN_len]; omega))
def valN : List Int → Int
  | [] => 0
  | o :: r => valN r * 256 + o
theorem val_step {ns : List Int} {i : Nat} {n : Int} (hl : i < (ns.map V.int).length) (h : ns[(ns.map V.int).length - 1 - i]? = some n) : valN (ns.drop (ns.length - (i + 1))) = valN (ns.drop (ns.length - i)) * 256 + n := by
  rw [List.length_map] at hl h
  have e : ns.length - (i + 1) = ns.length - 1 - i := by omega
  have e2 : ns.length - i = (ns.length - 1 - i) + 1 := by omega
  obtain ⟨hlt, hn⟩ := List.getElem?_eq_some_iff.mp h
  rw [e, e2, List.drop_eq_getElem_cons hlt, hn]
  rfl

def GdI (n : Int) : Prop := 32 ≤ n ∧ n ≤ 126 ∧ n ≠ 37
instance (n : Int) : Decidable (GdI n) := by unfold GdI; infer_instance
theorem all_gd (t : List Nat) : (t.map (fun (c_ : Nat) => decide (((32 ≤ (c_ : Int)) ∧ ((c_ : Int) ≤ 126)) ∧ ((c_ : Int) ≠ 37)))).all id = decide (∀ c ∈ t, Gd c) := by
  induction t with
  | nil => rfl
  | cons c r ih =>
    rw [List.map_cons, List.all_cons, ih]
    have e : (32 ≤ (c : Int) ∧ (c : Int) ≤ 126) ∧ (c : Int) ≠ 37 ↔ Gd c := by unfold Gd; omega
    simp only [id, e, List.mem_cons, forall_eq_or_imp]
    by_cases h1 : Gd c <;> by_cases h2 : ∀ c ∈ r, Gd c <;> simp [h1, h2]
def lowC : List Nat := [32, 33, 34, 35, 36]
theorem low_ch {n : Int} (h0 : 32 ≤ n) (h1 : n < 37) : gn [32, 33, 34, 35, 36] (n - 32) = n.toNat := by
  have h : n = 32 ∨ n = 33 ∨ n = 34 ∨ n = 35 ∨ n = 36 := by omega
  rcases h with h | h | h | h | h <;> subst h <;> rfl
def hiC : List Nat := (List.range 89).map (· + 38)
theorem hiC_eq : [38, 39, 40, 41, 42, 43, 44, 45, 46, 47, 48, 49, 50, 51, 52, 53, 54, 55, 56, 57, 58, 59, 60, 61, 62, 63, 64, 65, 66, 67, 68, 69, 70, 71, 72, 73, 74, 75, 76, 77, 78, 79, 80, 81, 82, 83, 84, 85, 86, 87, 88, 89, 90, 91, 92, 93, 94, 95, 96, 97, 98, 99, 100, 101, 102, 103, 104, 105, 106, 107, 108, 109, 110, 111, 112, 113, 114, 115, 116, 117, 118, 119, 120, 121, 122, 123, 124, 125, 126] = hiC := by decide
theorem high_ch {n : Int} (h0 : 38 ≤ n) (h1 : n ≤ 126) : gn [38, 39, 40, 41, 42, 43, 44, 45, 46, 47, 48, 49, 50, 51, 52, 53, 54, 55, 56, 57, 58, 59, 60, 61, 62, 63, 64, 65, 66, 67, 68, 69, 70, 71, 72, 73, 74, 75, 76, 77, 78, 79, 80, 81, 82, 83, 84, 85, 86, 87, 88, 89, 90, 91, 92, 93, 94, 95, 96, 97, 98, 99, 100, 101, 102, 103, 104, 105, 106, 107, 108, 109, 110, 111, 112, 113, 114, 115, 116, 117, 118, 119, 120, 121, 122, 123, 124, 125, 126] (n - 37 - 1) = n.toNat := by
  rw [hiC_eq]
  have e : (n - 37 - 1).toNat < 89 := by omega
  unfold gn hiC
  rw [List.getD_eq_getElem?_getD, List.getElem?_map, List.getElem?_range e]
  show (n - 37 - 1).toNat + 38 = n.toNat
  omega
theorem mem_atI {xs : List Int} {i : Nat} {n : Int} (h : xs[i]? = some n) : n ∈ xs := List.mem_of_getElem? h
theorem take_nextI {xs : List Int} {i : Nat} {n : Int} (h : xs[i]? = some n) : xs.take (i + 1) = xs.take i ++ [n] := by
  rw [List.take_add_one, h]; rfl
theorem flat1 (ns : List Int) : (ns.map (fun n => [n.toNat])).flatten = ns.map Int.toNat := by
  induction ns with
  | nil => rfl
  | cons n r ih => rw [List.map_cons, List.flatten_cons, ih]; rfl
def TL (ns : List Int) : List V := ns.map fun n => V.str (sO [n.toNat])
theorem TL_app (a : List Int) (n : Int) : TL (a ++ [n]) = TL a ++ [V.str (sO [n.toNat])] := by unfold TL; rw [List.map_append]; rfl
theorem gd_map {t : List Nat} (h : ∀ c ∈ t, Gd c) : ∀ n ∈ t.map (fun (c_ : Nat) => (c_ : Int)), GdI n := by
  intro n hn
  obtain ⟨c, hc, rfl⟩ := List.mem_map.mp hn
  have := h c hc
  unfold Gd at this; unfold GdI; omega
theorem tn_map (t : List Nat) : (t.map (fun (c_ : Nat) => (c_ : Int))).map Int.toNat = t := by
  induction t with
  | nil => rfl
  | cons c r ih => rw [List.map_cons, List.map_cons, ih, Int.toNat_natCast]
theorem oct_back {l : List Int} (h : ∀ n ∈ l, GdI n) : (l.map Int.toNat).map (fun (c_ : Nat) => (c_ : Int)) = l := by
  induction l with
  | nil => rfl
  | cons n r ih =>
    have hn := h n List.mem_cons_self
    unfold GdI at hn
    rw [List.map_cons, List.map_cons, ih fun m hm => h m (List.mem_cons_of_mem _ hm), Int.toNat_of_nonneg (by omega)]
theorem TL_eq (ns : List Int) : TL ns = ((ns.map (fun n => [n.toNat])).map sO).map V.str := by unfold TL; rw [List.map_map, List.map_map]; rfl

def NmOk (t : List Nat) : Prop := (1 ≤ t.length ∧ t.length ≤ 28) ∧ ¬ t ∈ ([[46], [46, 46]] : List (List Nat)) ∧ (∀ c ∈ t, Gd c) ∧ ¬ 47 ∈ t
instance (t : List Nat) : Decidable (NmOk t) := by unfold NmOk; infer_instance
theorem nm_f {t : List Nat} (h : (t.length : Int) < 1 ∨ (t.length : Int) > 28 ∨ t ∈ ([[46], [46, 46]] : List (List Nat))) : false = decide (NmOk t) := by
  refine (decide_eq_false fun z => ?_).symm
  obtain ⟨z1, z2, _⟩ := z
  rcases h with h | h | h
  · omega
  · omega
  · exact z2 h
theorem nm_t {t : List Nat} (h1 : ¬ (t.length : Int) < 1) (h2 : ¬ (t.length : Int) > 28) (h3 : ¬ t ∈ ([[46], [46, 46]] : List (List Nat))) : decide ((∀ c ∈ t, Gd c) ∧ (¬ (47 ∈ t))) = decide (NmOk t) := by
  refine decide_eq_decide.mpr ⟨fun h => ⟨by omega, h3, h.1, h.2⟩, fun h => h.2.2⟩
def encE (t : List Nat) (n : Int) : List Int := ((octI n 2 ++ [(t.length : Int)]) ++ t.map (fun (c_ : Nat) => (c_ : Int))) ++ List.replicate (32 - (((octI n 2 ++ [(t.length : Int)]) ++ t.map (fun (c_ : Nat) => (c_ : Int))).length : Int)).toNat 0
def octL (t : List Nat) (n : Int) : List Int := (([n % 256, n / 256, (t.length : Int)] : List Int) ++ t.map (fun (c_ : Nat) => (c_ : Int))) ++ List.replicate (29 - (t.length : Int)).toNat 0
def nmE (ns : List Int) : List Nat := (cutI ns 3 (3 + gi ns 2)).map Int.toNat
def EntG (ns : List Int) : Prop := valN (cutI ns 0 2) ≠ 0 ∧ gi ns 2 ≤ 28 ∧ anyN (cutI ns (3 + gi ns 2) (ns.length : Int)) = false ∧ (∀ n ∈ cutI ns 3 (3 + gi ns 2), GdI n) ∧ NmOk (nmE ns)
instance (ns : List Int) : Decidable (EntG ns) := by unfold EntG; infer_instance
def PkG (ns : List Int) (k : Int) : Prop := (k ≥ gi ns 2 → gi ns (3 + k) = 0) ∧ (k < gi ns 2 → GdI (gi ns (3 + k)) ∧ gi ns (3 + k) ≠ 47)
local macro_rules | `(tactic| walk_at "side2") => `(tactic| first | (refine Nat.le_trans (G.cutI_le ..) ?_; omega) | (rw [List.length_map]; refine Nat.le_trans (G.cutI_le ..) ?_; omega))

theorem at_lt {α : Type} {xs : List α} {i : Nat} {x : α} (h : xs[i]? = some x) : i < xs.length := (List.getElem?_eq_some_iff.mp h).1
theorem no_app {t : List Nat} {c : Nat} (h : ¬ 47 ∈ t) (hc : ¬ c = 47) : ¬ 47 ∈ t ++ [c] := fun hm => by
  rcases List.mem_append.mp hm with z | z
  · exact h z
  · exact hc (List.mem_singleton.mp z).symm
def tsN : List (List Nat) := [[46, 97], [46, 46, 97], [46, 46, 46], [97, 46], [32], [126], [97, 32, 98]]
theorem nm_ts {t : List Nat} (h : t ∈ ([[46, 97], [46, 46, 97], [46, 46, 46], [97, 46], [32], [126], [97, 32, 98]] : List (List Nat))) (_ : ¬ (t = [46] ∨ t = [46, 46])) : NmOk t := by
  have : ∀ t ∈ tsN, NmOk t := by decide
  exact this t h
theorem nm_dot {t : List Nat} (h : t = [46] ∨ t = [46, 46]) : NmOk (t ++ [95]) := by rcases h with h | h <;> subst h <;> decide
theorem nm_mk {t : List Nat} (h1 : 1 ≤ t.length) (h2 : t.length ≤ 28) (h3 : ∀ c ∈ t, Gd c) (h4 : ¬ 47 ∈ t) (h5 : ¬ (t = [46] ∨ t = [46, 46])) : NmOk t :=
  ⟨⟨h1, h2⟩, fun hm => h5 (by simpa using hm), h3, h4⟩
theorem val2 {ns : List Int} (hl : ns.length = 32) : valN (cutI ns 0 2) = gi ns 1 * 256 + gi ns 0 := by
  match ns, hl with
  | a :: b :: r, _ => show (0 * 256 + b) * 256 + a = b * 256 + a; omega
theorem gi_nn {ns : List Int} (hl : ns.length = 32) (hb : ∀ o ∈ ns, 0 ≤ o ∧ o < 256) {i : Int} (h0 : 0 ≤ i) (h1 : i < 32) : 0 ≤ gi ns i ∧ gi ns i < 256 := hb _ (gi_mem h0 (by omega))
theorem any_iff (ns : List Int) : anyN ns = false ↔ ∀ o ∈ ns, o = 0 := by
  unfold anyN
  simp
theorem cut_mem {ns : List Int} (hl : ns.length = 32) {lo hi : Int} (h0 : 0 ≤ lo) (h1 : hi ≤ 32) (x : Int) : x ∈ cutI ns lo hi ↔ ∃ k : Int, lo ≤ k ∧ k < hi ∧ gi ns k = x := by
  unfold cutI
  rw [List.mem_iff_getElem?]
  constructor
  · rintro ⟨i, hi'⟩
    rw [List.getElem?_take] at hi'
    split at hi'
    · rename_i hlt
      rw [List.getElem?_drop] at hi'
      refine ⟨lo + (i : Int), by omega, by omega, ?_⟩
      unfold gi
      rw [List.getD_eq_getElem?_getD, show (lo + (i : Int)).toNat = lo.toNat + i from by omega, hi']; rfl
    · cases hi'
  · rintro ⟨k, a, b, e⟩
    refine ⟨(k - lo).toNat, ?_⟩
    rw [List.getElem?_take, if_pos (by omega), List.getElem?_drop, show lo.toNat + (k - lo).toNat = k.toNat from by omega, ← e]
    unfold gi
    rw [List.getD_eq_getElem?_getD, List.getElem?_eq_getElem (by omega)]; rfl
theorem cut_len {ns : List Int} (hl : ns.length = 32) {lo hi : Int} (h0 : 0 ≤ lo) (h1 : hi ≤ 32) (h2 : lo ≤ hi) : ((cutI ns lo hi).length : Int) = hi - lo := by
  unfold cutI
  rw [List.length_take, List.length_drop]
  omega
theorem ent_iff {ns : List Int} (hl : ns.length = 32) (hb : ∀ o ∈ ns, 0 ≤ o ∧ o < 256) : EntG ns ↔ gi ns 0 + gi ns 1 ≠ 0 ∧ 1 ≤ gi ns 2 ∧ gi ns 2 ≤ 28 ∧ (∀ k : Int, 0 ≤ k → k < 29 → PkG ns k) ∧ cutI ns 3 (3 + gi ns 2) ≠ [46] ∧ cutI ns 3 (3 + gi ns 2) ≠ [46, 46] := by
  have g0 := gi_nn hl hb (i := 0) (by omega) (by omega)
  have g1 := gi_nn hl hb (i := 1) (by omega) (by omega)
  have g2 := gi_nn hl hb (i := 2) (by omega) (by omega)
  unfold EntG
  rw [val2 hl, hl]
  constructor
  · rintro ⟨a, b, c, d, e⟩
    have e' := e
    obtain ⟨⟨e1, e2⟩, e3, e4, e5⟩ := e
    have hcl := cut_len hl (lo := 3) (hi := 3 + gi ns 2) (by omega) (by omega) (by omega)
    have ln : (nmE ns).length = (cutI ns 3 (3 + gi ns 2)).length := List.length_map ..
    refine ⟨by omega, by omega, b, fun k h0 h1 => ⟨fun hk => ?_, fun hk => ?_⟩, fun z => ?_, fun z => ?_⟩
    · exact (any_iff _).mp c _ ((cut_mem hl (by omega) (by omega) _).mpr ⟨3 + k, by omega, by omega, rfl⟩)
    · have hm : gi ns (3 + k) ∈ cutI ns 3 (3 + gi ns 2) := (cut_mem hl (by omega) (by omega) _).mpr ⟨3 + k, by omega, by omega, rfl⟩
      refine ⟨d _ hm, fun z => e5 ?_⟩
      have := List.mem_map_of_mem (f := Int.toNat) hm
      rw [z] at this
      exact this
    · exact e3 (by unfold nmE; rw [z]; decide)
    · exact e3 (by unfold nmE; rw [z]; decide)
  · rintro ⟨a, b, c, d, e, f⟩
    have hcl := cut_len hl (lo := 3) (hi := 3 + gi ns 2) (by omega) (by omega) (by omega)
    have ln : (nmE ns).length = (cutI ns 3 (3 + gi ns 2)).length := List.length_map ..
    have hg : ∀ n ∈ cutI ns 3 (3 + gi ns 2), GdI n ∧ n ≠ 47 := fun n hn => by
      obtain ⟨k, k1, k2, rfl⟩ := (cut_mem hl (by omega) (by omega) _).mp hn
      have := (d (k - 3) (by omega) (by omega)).2 (by omega)
      rwa [show 3 + (k - 3) = k from by omega] at this
    refine ⟨by omega, c, (any_iff _).mpr fun o ho => ?_, fun n hn => (hg n hn).1, ⟨by omega, by omega⟩, fun hm => ?_, fun q hq => ?_, fun hm => ?_⟩
    · obtain ⟨k, k1, k2, rfl⟩ := (cut_mem hl (by omega) (by omega) _).mp ho
      have := (d (k - 3) (by omega) (by omega)).1 (by omega)
      rwa [show 3 + (k - 3) = k from by omega] at this
    · have back : (nmE ns).map (fun (c_ : Nat) => (c_ : Int)) = cutI ns 3 (3 + gi ns 2) := oct_back fun n hn => (hg n hn).1
      rcases (by simpa using hm : nmE ns = [46] ∨ nmE ns = [46, 46]) with z | z
      · rw [z] at back; exact e back.symm
      · rw [z] at back; exact f back.symm
    · obtain ⟨n, hn, rfl⟩ := List.mem_map.mp hq
      have := (hg n hn).1
      unfold GdI at this; unfold Gd; omega
    · obtain ⟨n, hn, e2⟩ := List.mem_map.mp hm
      have := hg n hn
      unfold GdI at this; omega
theorem nm_len {ns : List Int} (h : EntG ns) (hl : ns.length = 32) : (nmE ns).length ≤ 28 := h.2.2.2.2.1.2
def E3 (a b : Int) (t : List Nat) : List Int := a :: b :: (t.length : Int) :: (t.map (fun (c_ : Nat) => (c_ : Int)) ++ List.replicate (29 - t.length) 0)
theorem encE_eq (t : List Nat) (n : Int) : encE t n = E3 (n % 256) (n / 256 % 256) t := by
  unfold encE E3
  have : (32 - (((octI n 2 ++ [(t.length : Int)]) ++ t.map (fun (c_ : Nat) => (c_ : Int))).length : Int)).toNat = 29 - t.length := by
    simp [octI, octN_len]
    omega
  rw [this]
  simp [octI, octN, dvN]
theorem octL_eq {t : List Nat} {n : Int} (h0 : 0 ≤ n) (h1 : n < 65536) : octL t n = encE t n := by
  rw [encE_eq]
  unfold octL E3
  have : (29 - (t.length : Int)).toNat = 29 - t.length := by omega
  rw [this, show n / 256 % 256 = n / 256 from by omega]
  simp
theorem E3_len {a b : Int} {t : List Nat} (h : t.length ≤ 28) : (E3 a b t).length = 32 := by
  unfold E3
  simp
  omega
theorem E3_cut {a b : Int} {t : List Nat} : cutI (E3 a b t) 3 (3 + gi (E3 a b t) 2) = t.map (fun (c_ : Nat) => (c_ : Int)) := by
  show (((E3 a b t).drop 3).take ((3 + (t.length : Int)).toNat - 3)) = _
  rw [show (3 + (t.length : Int)).toNat - 3 = t.length from by omega]
  show (t.map (fun (c_ : Nat) => (c_ : Int)) ++ List.replicate (29 - t.length) 0).take t.length = _
  rw [List.take_append_of_le_length (by simp), List.take_of_length_le (by simp)]
theorem E3_tail {a b : Int} {t : List Nat} : cutI (E3 a b t) (3 + gi (E3 a b t) 2) ((E3 a b t).length : Int) = List.replicate (29 - t.length) 0 := by
  show (((E3 a b t).drop (3 + (t.length : Int)).toNat).take _) = _
  rw [show (3 + (t.length : Int)).toNat = t.length + 3 from by omega]
  show ((t.map (fun (c_ : Nat) => (c_ : Int)) ++ List.replicate (29 - t.length) 0).drop t.length).take _ = _
  rw [List.drop_append_of_le_length (by simp), List.drop_of_length_le (by simp), List.nil_append, List.take_of_length_le]
  have e2 : gi (E3 a b t) 2 = (t.length : Int) := rfl
  have e3 : (E3 a b t).length = 3 + t.length + (29 - t.length) := by
    unfold E3
    simp only [List.length_replicate, List.length_cons, List.length_append, List.length_map]
    omega
  rw [e2, e3, List.length_replicate]
  omega
theorem E3_nm {a b : Int} {t : List Nat} : nmE (E3 a b t) = t := by
  unfold nmE
  rw [E3_cut, tn_map]
theorem enc_ent {t : List Nat} {n : Int} (ht : NmOk t) (h0 : 1 ≤ n) (h1 : n < 65536) : EntG (encE t n) ∧ nmE (encE t n) = t ∧ valN (cutI (encE t n) 0 2) = n := by
  rw [encE_eq]
  have hv : valN (cutI (E3 (n % 256) (n / 256 % 256) t) 0 2) = n := by
    show (0 * 256 + n / 256 % 256) * 256 + n % 256 = n
    omega
  have h28 := ht.1.2
  refine ⟨⟨by rw [hv]; omega, ?_, ?_, ?_, by rw [E3_nm]; exact ht⟩, E3_nm, hv⟩
  · show (t.length : Int) ≤ 28
    omega
  · rw [E3_tail]
    exact (any_iff _).mpr fun o ho => List.eq_of_mem_replicate ho
  · rw [E3_cut]
    exact gd_map ht.2.2.1
theorem enc_len {t : List Nat} {n : Int} (h : t.length ≤ 28) : (encE t n).length = 32 := by rw [encE_eq]; exact E3_len h
theorem enc_bd {t : List Nat} {n : Int} (ht : NmOk t) : ∀ o ∈ encE t n, 0 ≤ o ∧ o < 256 := by
  rw [encE_eq]
  have h28 := ht.1.2
  intro o ho
  unfold E3 at ho
  simp only [List.mem_cons, List.mem_append, List.mem_map, List.mem_replicate] at ho
  rcases ho with e | e | e | ⟨c, hc, e⟩ | ⟨_, e⟩
  · omega
  · omega
  · omega
  · have := ht.2.2.1 c hc
    unfold Gd at this
    omega
  · omega
theorem ent_enc {ns : List Int} (hl : ns.length = 32) (hb : ∀ o ∈ ns, 0 ≤ o ∧ o < 256) (h : EntG ns) : encE (nmE ns) (valN (cutI ns 0 2)) = ns := by
  have g0 := gi_nn hl hb (i := 0) (by omega) (by omega)
  have g1 := gi_nn hl hb (i := 1) (by omega) (by omega)
  have g2 := gi_nn hl hb (i := 2) (by omega) (by omega)
  obtain ⟨_, h2, h3, h4, h5⟩ := h
  have back : (nmE ns).map (fun (c_ : Nat) => (c_ : Int)) = cutI ns 3 (3 + gi ns 2) := oct_back h4
  have ln : (nmE ns).length = (cutI ns 3 (3 + gi ns 2)).length := List.length_map ..
  have hcl := cut_len hl (lo := 3) (hi := 3 + gi ns 2) (by omega) (by omega) (by omega)
  rw [encE_eq, val2 hl]
  unfold E3
  rw [back, show (gi ns 1 * 256 + gi ns 0) % 256 = gi ns 0 from by omega, show (gi ns 1 * 256 + gi ns 0) / 256 % 256 = gi ns 1 from by omega]
  match ns, hl with
  | a :: b :: c :: r, hl =>
    have hc : ((nmE (a :: b :: c :: r)).length : Int) = c := by
      have : gi (a :: b :: c :: r) 2 = c := rfl
      omega
    have hz := (any_iff _).mp h3
    have e2 : gi (a :: b :: c :: r) 2 = c := rfl
    rw [e2] at hz g2 h2 ⊢
    have hr : r.length = 29 := by simpa using hl
    have z : r.drop c.toNat = List.replicate (29 - (nmE (a :: b :: c :: r)).length) 0 := by
      refine List.eq_replicate_iff.mpr ⟨by rw [List.length_drop]; omega, fun o ho => hz o ?_⟩
      unfold cutI
      rw [show (3 + c).toNat = c.toNat + 3 from by omega]
      show o ∈ ((r.drop c.toNat).take _)
      rw [List.take_of_length_le]
      · exact ho
      · rw [List.length_drop]; simp; omega
    rw [← z, hc]
    show a :: b :: c :: (cutI (a :: b :: c :: r) 3 (3 + c) ++ r.drop c.toNat) = _
    have : cutI (a :: b :: c :: r) 3 (3 + c) = r.take c.toNat := by
      show (r.take ((3 + c).toNat - 3)) = _
      rw [show (3 + c).toNat - 3 = c.toNat from by omega]
    rw [this, List.take_append_drop]
theorem nm_due {t : List Nat} (hg : ∀ c ∈ t, Gd c) : decide (NmOk t) = decide ((1 ≤ (t.length : Int)) ∧ (((t.length : Int) ≤ 28) ∧ ((¬ (47 ∈ t)) ∧ ((t ≠ ([46])) ∧ (t ≠ ([46, 46])))))) :=
  decide_eq_decide.mpr ⟨fun ⟨⟨a, b⟩, c, _, e⟩ => ⟨by omega, by omega, e, fun z => c (by rw [z]; decide), fun z => c (by rw [z]; decide)⟩, fun ⟨a, b, c, d, e⟩ => ⟨⟨by omega, by omega⟩, fun hm => by
    rcases (by simpa using hm : t = [46] ∨ t = [46, 46]) with z | z
    · exact d z
    · exact e z, hg, c⟩⟩
theorem set_bd {t : List Int} {i : Nat} {v : Int} (h : ∀ q ∈ t, 0 ≤ q ∧ q < 256) (h0 : 0 ≤ v) (h1 : v < 256) : ∀ q ∈ t.set i v, 0 ≤ q ∧ q < 256 := fun q hq => by
  rcases List.mem_or_eq_of_mem_set hq with z | z
  · exact h q z
  · rw [z]; exact ⟨h0, h1⟩
theorem gi_set2 {t : List Int} {v : Int} (h : t.length = 32) : gi (t.set (2 : Int).toNat v) 2 = v := by
  show (t.set 2 v).getD 2 0 = v
  rw [List.getD_eq_getElem?_getD, List.getElem?_set_self (by omega)]; rfl
theorem rep_bd0 (n : Nat) : ∀ q ∈ List.replicate n (0 : Int), 0 ≤ q ∧ q < 256 := fun q hq => by
  rw [List.eq_of_mem_replicate hq]; decide
theorem app_bd {a b : List Int} (ha : ∀ q ∈ a, 0 ≤ q ∧ q < 256) (hb : ∀ q ∈ b, 0 ≤ q ∧ q < 256) : ∀ q ∈ a ++ b, 0 ≤ q ∧ q < 256 := fun q hq => (List.mem_append.mp hq).elim (ha q) (hb q)
theorem take_bd {a : List Int} {n : Nat} (ha : ∀ q ∈ a, 0 ≤ q ∧ q < 256) : ∀ q ∈ a.take n, 0 ≤ q ∧ q < 256 := fun q hq => ha q (List.mem_of_mem_take hq)
theorem two_bd {a b : Int} (ha : 0 ≤ a ∧ a < 256) (hb : 0 ≤ b ∧ b < 256) : ∀ q ∈ [a, b], 0 ≤ q ∧ q < 256 := fun q hq => by
  simp only [List.mem_cons, List.not_mem_nil, or_false] at hq
  rcases hq with z | z <;> rw [z] <;> assumption
theorem row_bd {a b c : Int} {f : Nat → Int} {m : Nat} (ha : 0 ≤ a ∧ a < 256) (hb : 0 ≤ b ∧ b < 256) (hc : 0 ≤ c ∧ c < 256) (hf : ∀ k, 0 ≤ f k ∧ f k < 256) : ∀ o ∈ [a, b, c] ++ (List.range m).map f, 0 ≤ o ∧ o < 256 := fun o ho => by
  rcases List.mem_append.mp ho with z | z
  · simp only [List.mem_cons, List.not_mem_nil, or_false] at z
    rcases z with z | z | z <;> rw [z] <;> assumption
  · obtain ⟨k, _, rfl⟩ := List.mem_map.mp z
    exact hf k
theorem dok_tn {t : List Nat} {n : Int} (h : ∀ c ∈ t, Gd c) : dok 9 (.tuple [.str (sO t), .int n]) = true := by
  have hs : (PyData.str (sO t)).canLay0 = true := by
    show (sO t).cps.all (· < 0x110000) = true
    simp only [sO, List.all_toArray, List.all_eq_true, decide_eq_true_eq]
    intro c hc
    have := h c hc
    unfold Gd at this
    omega
  refine dok_le (dok_tuple (n := 1) fun d hd => ?_) (by decide)
  simp only [List.mem_cons, List.not_mem_nil, or_false] at hd
  rcases hd with z | z <;> rw [z]
  · exact dok_str hs
  · exact dok_int _ _
theorem dec_enc {t : List Nat} {n : Int} (ht : NmOk t) (h0 : 1 ≤ n) (h1 : n < 65536) : (.tuple [.str (sO (nmE (encE t n))), .int (valN (cutI (encE t n) 0 2))] : PyData) = .tuple [.str (sO t), .int n] := by
  rw [(enc_ent ht h0 h1).2.1, (enc_ent ht h0 h1).2.2]
local macro_rules | `(tactic| walk_at "dok2") => `(tactic| first | exact X.dok_tn (And.left (And.right (And.right (by assumption : X.NmOk _)))) | exact X.dok_tn (And.left (And.right (And.right (And.right (And.right (And.right (And.right (And.left (X.enc_ent (by assumption) (by omega) (by omega)))))))))))
local macro_rules | `(tactic| walk_at "len32") => `(tactic| first | assumption | exact X.enc_len (by omega) | (rw [List.length_set]; walk_at "len32") | (rw [List.length_replicate]; rfl) | (simp only [List.length_append, List.length_take, List.length_cons, List.length_nil, List.length_replicate, List.length_set] <;> omega))
local macro_rules | `(tactic| walk_at "bd") => `(tactic| first | assumption | exact X.enc_bd (by assumption) | exact X.rep_bd0 _ | exact X.two_bd (by omega) (by omega) | (refine X.set_bd ?_ (by omega) (by omega) <;> walk_at "bd") | (refine X.take_bd ?_ <;> walk_at "bd") | (refine X.app_bd ?_ ?_ <;> walk_at "bd"))
theorem good_f1 {ns : List Int} (hl : ns.length = 32) (hb : ∀ o ∈ ns, 0 ≤ o ∧ o < 256) (h : gi ns 0 + gi ns 1 = 0 ∨ gi ns 2 < 1 ∨ gi ns 2 > 28) : false = decide (EntG ns) := by
  refine (decide_eq_false fun z => ?_).symm
  have := (ent_iff hl hb).mp z
  omega
theorem good_f2 {ns : List Int} {k : Int} (hl : ns.length = 32) (hb : ∀ o ∈ ns, 0 ≤ o ∧ o < 256) (h : ¬ PkG ns k) (_ : 0 ≤ k) (_ : k < 29) : false = decide (EntG ns) := by
  refine (decide_eq_false fun z => ?_).symm
  exact h (((ent_iff hl hb).mp z).2.2.2.1 k (by assumption) (by assumption))
theorem pk_f1 {ns : List Int} {k : Int} (h : k ≥ gi ns 2 ∧ gi ns (3 + k) ≠ 0) : ¬ PkG ns k := fun z => h.2 (z.1 h.1)
theorem pk_f2 {ns : List Int} {k : Int} (h : k < gi ns 2 ∧ (gi ns (3 + k) < 32 ∨ gi ns (3 + k) > 126 ∨ gi ns (3 + k) = 37 ∨ gi ns (3 + k) = 47)) : ¬ PkG ns k := fun z => by
  have := z.2 h.1
  unfold GdI at this
  omega
theorem pk_t {ns : List Int} {k : Int} (h : ¬ (k ≥ gi ns 2 ∧ gi ns (3 + k) ≠ 0)) (h2 : ¬ (k < gi ns 2 ∧ (gi ns (3 + k) < 32 ∨ gi ns (3 + k) > 126 ∨ gi ns (3 + k) = 37 ∨ gi ns (3 + k) = 47))) : PkG ns k := by
  unfold PkG GdI
  omega
theorem good_t {ns : List Int} (hl : ns.length = 32) (hb : ∀ o ∈ ns, 0 ≤ o ∧ o < 256) (h1 : gi ns 0 + gi ns 1 ≠ 0) (h2 : 1 ≤ gi ns 2) (h3 : gi ns 2 ≤ 28) (h : ∀ k : Int, 0 ≤ k → k < 29 → PkG ns k) :
    decide ((cutI ns 3 (3 + gi ns 2) ≠ [46]) ∧ (cutI ns 3 (3 + gi ns 2) ≠ [46, 46])) = decide (EntG ns) :=
  decide_eq_decide.mpr ⟨fun z => (ent_iff hl hb).mpr ⟨h1, h2, h3, h, z.1, z.2⟩, fun z => ((ent_iff hl hb).mp z).2.2.2.2⟩


section
variable {P : Program} {w : World} {K : PySem.W.Frag} {mg : Str → Option Value} {base : Heap} {A : Ads}
def sp_number_octets (K : PySem.W.Frag) (A : Ads) : Sp := fun vs H Q _ => ∃ (n m : Int), vs = [V.int n, V.int m] ∧ (0 ≤ m) ∧ (m ≤ 1000) ∧ ∃ (G : Addr → Prop) (Z : Hp), Hs G H Z [] H Z ∧ ∀ (p : Addr) (H' Z' : Hp), Hs G H Z [c p (.lst ((octI n m).map V.int))] H' Z' → Q (V.ref p) H'
def sp_number_of (K : PySem.W.Frag) (A : Ads) : Sp := fun vs H Q _ => ∃ (a : Addr) (ns : List Int), vs = [V.ref a] ∧ ∃ (G : Addr → Prop) (Z : Hp), Hs G H Z [c a (.lst (ns.map V.int))] H Z ∧ ∀  (H' Z' : Hp), Hs G H Z [c a (.lst (ns.map V.int))] H' Z' → Q (V.int (valN ns)) H'
def sp_is_code (K : PySem.W.Frag) (A : Ads) : Sp := fun vs H Q _ => ∃ (n : Int), vs = [V.int n] ∧ Q (V.bl (decide (((32 ≤ n) ∧ (n ≤ 126)) ∧ (n ≠ 37)))) H
def sp_is_text (K : PySem.W.Frag) (A : Ads) : Sp := fun vs H Q _ => ∃ (t : List Nat), vs = [V.str (sO t)] ∧ (t.length ≤ 10000) ∧ ∃ (G : Addr → Prop) (Z : Hp), Hs G H Z [] H Z ∧ ∀  (H' Z' : Hp), Hs G H Z [] H' Z' → Q (V.bl (decide (∀ c ∈ t, Gd c))) H'
def sp_octets_of (K : PySem.W.Frag) (A : Ads) : Sp := fun vs H Q _ => ∃ (t : List Nat), vs = [V.str (sO t)] ∧ (t.length ≤ 10000) ∧ ∃ (G : Addr → Prop) (Z : Hp), Hs G H Z [] H Z ∧ ∀ (p : Addr) (H' Z' : Hp), Hs G H Z [c p (.lst ((t.map (fun (c_ : Nat) => (c_ : Int))).map V.int))] H' Z' → Q (V.ref p) H'
def sp_char_of (K : PySem.W.Frag) (A : Ads) : Sp := fun vs H Q _ => ∃ (n : Int), vs = [V.int n] ∧ (32 ≤ n) ∧ (n ≤ 126) ∧ (n ≠ 37) ∧ Q (V.str (sO ([n.toNat]))) H
def sp_text_of_0 (K : PySem.W.Frag) (A : Ads) : Sp := fun vs H Q _ => ∃ (a : Addr) (ns : List Int), vs = [V.ref a] ∧ (ns.length ≤ 10000) ∧ (∀ n ∈ ns, GdI n) ∧ ∃ (G : Addr → Prop) (Z : Hp), Hs G H Z [c a (.lst (ns.map V.int))] H Z ∧ ∀  (H' Z' : Hp), Hs G H Z [c a (.lst (ns.map V.int))] H' Z' → Q (V.str (sO (ns.map Int.toNat))) H'
def sp_text_of_1 (K : PySem.W.Frag) (A : Ads) : Sp := fun vs H Q _ => ∃ (a : Addr) (ns : List Int), vs = [V.ref a] ∧ (ns.length ≤ 10000) ∧ (¬ ∀ n ∈ ns, GdI n) ∧ ∃ (G : Addr → Prop) (Z : Hp), Hs G H Z [c a (.lst (ns.map V.int))] H Z ∧ ∀  (H' Z' : Hp), Hs G H Z [c a (.lst (ns.map V.int))] H' Z' → Q (V.non) H'
def sp_text_of (K : PySem.W.Frag) (A : Ads) : Sp := fun vs H Q E => sp_text_of_0 K A vs H Q E ∨ sp_text_of_1 K A vs H Q E
def sp_is_name (K : PySem.W.Frag) (A : Ads) : Sp := fun vs H Q _ => ∃ (t : List Nat), vs = [V.str (sO t)] ∧ (t.length ≤ 10000) ∧ ∃ (G : Addr → Prop) (Z : Hp), Hs G H Z [] H Z ∧ ∀  (H' Z' : Hp), Hs G H Z [] H' Z' → Q (V.bl (decide (NmOk t))) H'
def sp_encode_entry (K : PySem.W.Frag) (A : Ads) : Sp := fun vs H Q _ => ∃ (t : List Nat) (n : Int), vs = [V.str (sO t), V.int n] ∧ (t.length ≤ 28) ∧ ∃ (G : Addr → Prop) (Z : Hp), Hs G H Z [] H Z ∧ ∀ (p : Addr) (H' Z' : Hp), Hs G H Z [c p (.lst ((encE t n).map V.int))] H' Z' → Q (V.ref p) H'
def sp_decode_entry_0 (K : PySem.W.Frag) (A : Ads) : Sp := fun vs H Q _ => ∃ (a : Addr) (ns : List Int), vs = [V.ref a] ∧ (ns.length = 32) ∧ (∀ o ∈ ns, 0 ≤ o ∧ o < 256) ∧ (EntG ns) ∧ ∃ (G : Addr → Prop) (Z : Hp), Hs G H Z [c a (.lst (ns.map V.int))] H Z ∧ ∀ (p : Addr) (H' Z' : Hp), Hs G H Z [fz p (.tup ([V.str (sO (nmE ns)), V.int (valN (cutI ns 0 2))])), c a (.lst (ns.map V.int))] H' Z' → Q (V.ref p) H'
def sp_decode_entry_1 (K : PySem.W.Frag) (A : Ads) : Sp := fun vs H Q _ => ∃ (a : Addr) (ns : List Int), vs = [V.ref a] ∧ (ns.length = 32) ∧ (∀ o ∈ ns, 0 ≤ o ∧ o < 256) ∧ (¬ EntG ns) ∧ ∃ (G : Addr → Prop) (Z : Hp), Hs G H Z [c a (.lst (ns.map V.int))] H Z ∧ ∀  (H' Z' : Hp), Hs G H Z [c a (.lst (ns.map V.int))] H' Z' → Q (V.non) H'
def sp_decode_entry (K : PySem.W.Frag) (A : Ads) : Sp := fun vs H Q E => sp_decode_entry_0 K A vs H Q E ∨ sp_decode_entry_1 K A vs H Q E
def sp__law_row (K : PySem.W.Frag) (A : Ads) : Sp := fun vs H Q _ => ∃ (a : Addr) (ns : List Int) (k : Int), vs = [V.ref a, V.int k] ∧ (0 ≤ k) ∧ (∃ (G Z : _), Hs G H Z [sq K a (ns.map V.int)] H Z) ∧ Q (V.int (rowG ns k)) H
def sp__law_is_integer (K : PySem.W.Frag) (A : Ads) : Sp := fun vs H Q _ => ∃ (n : Int), vs = [V.int n] ∧ Q (V.bl true) H
def sp__law_char (K : PySem.W.Frag) (A : Ads) : Sp := fun vs H Q _ => ∃ (n : Int), vs = [V.int n] ∧ Q (V.str (sO ([chF n]))) H
def sp__law_text (K : PySem.W.Frag) (A : Ads) : Sp := fun vs H Q _ => ∃ (n m : Int), vs = [V.int n, V.int m] ∧ (0 ≤ m) ∧ (m ≤ 1000) ∧ ∃ (G : Addr → Prop) (Z : Hp), Hs G H Z [] H Z ∧ ∀ (t : List Nat) (H' Z' : Hp), Hs G H Z [] H' Z' → ((t.length : Int) = m) → (∀ c ∈ t, Gd c) → Q (V.str (sO t)) H'
def sp__law_name (K : PySem.W.Frag) (A : Ads) : Sp := fun vs H Q _ => ∃ (n : Int), vs = [V.int n] ∧ (0 ≤ n) ∧ ∃ (G : Addr → Prop) (Z : Hp), Hs G H Z [] H Z ∧ ∀ (t : List Nat) (H' Z' : Hp), Hs G H Z [] H' Z' → (NmOk t) → Q (V.str (sO t)) H'
def sp__law_octets (K : PySem.W.Frag) (A : Ads) : Sp := fun vs H Q _ => ∃ (t : List Nat) (n : Int), vs = [V.str (sO t), V.int n] ∧ (t.length ≤ 28) ∧ ∃ (G : Addr → Prop) (Z : Hp), Hs G H Z [] H Z ∧ ∀ (p : Addr) (H' Z' : Hp), Hs G H Z [c p (.lst ((octL t n).map V.int))] H' Z' → Q (V.ref p) H'
def sp__law_good (K : PySem.W.Frag) (A : Ads) : Sp := fun vs H Q _ => ∃ (a : Addr) (ns : List Int), vs = [V.ref a] ∧ (ns.length = 32) ∧ (∀ o ∈ ns, 0 ≤ o ∧ o < 256) ∧ ∃ (G : Addr → Prop) (Z : Hp), Hs G H Z [c a (.lst (ns.map V.int))] H Z ∧ ∀  (H' Z' : Hp), Hs G H Z [c a (.lst (ns.map V.int))] H' Z' → Q (V.bl (decide (EntG ns))) H'
def sp__law_reads (K : PySem.W.Frag) (A : Ads) : Sp := fun vs H Q _ => ∃ (a : Addr) (ns : List Int), vs = [V.ref a] ∧ (ns.length = 32) ∧ (∀ o ∈ ns, 0 ≤ o ∧ o < 256) ∧ ∃ (G : Addr → Prop) (Z : Hp), Hs G H Z [c a (.lst (ns.map V.int))] H Z ∧ ∀  (H' Z' : Hp), Hs G H Z [c a (.lst (ns.map V.int))] H' Z' → Q (V.bl true) H'
def sp__law_is (K : PySem.W.Frag) (A : Ads) : Sp := fun vs H Q _ => ∃ (x y : Bool), vs = [V.bl x, V.bl y] ∧ Q (V.bl (decide (x = y))) H
def sp__law_names (K : PySem.W.Frag) (A : Ads) : Sp := fun vs H Q _ => ∃ (n : Int), vs = [V.int n] ∧ (0 ≤ n) ∧ ∃ (G : Addr → Prop) (Z : Hp), Hs G H Z [] H Z ∧ ∀  (H' Z' : Hp), Hs G H Z [] H' Z' → Q (V.bl true) H'
def sp_law0 (K : PySem.W.Frag) : Sp := fun vs H Q _ => ∃ (a : Addr) (ns : List Int), vs = [.ref a] ∧ SqL K H a (ns.map V.int) ∧ ns.length ≤ 63 ∧ ∀ H', Q (.bl true) H'
abbrev sp_law (K : PySem.W.Frag) (_ : Ads) : Sp := sp_law0 K
end
end X
local macro_rules | `(tactic| walk_at "side2") => `(tactic| first | (simp [X.octI, X.octN_len]; done) | (simp [X.octI, X.octN_len]; omega))
local macro_rules | `(tactic| walk_at "side2") => `(tactic| first | (refine Nat.le_trans (G.cutI_le ..) ?_; omega) | (rw [List.length_map]; refine Nat.le_trans (G.cutI_le ..) ?_; omega))
local macro_rules | `(tactic| walk_at "dok2") => `(tactic| first | exact X.dok_tn (And.left (And.right (And.right (by assumption : X.NmOk _)))) | exact X.dok_tn (And.left (And.right (And.right (And.right (And.right (And.right (And.right (And.left (X.enc_ent (by assumption) (by omega) (by omega)))))))))))
local macro_rules | `(tactic| walk_at "len32") => `(tactic| first | assumption | exact X.enc_len (by omega) | (rw [List.length_set]; walk_at "len32") | (rw [List.length_replicate]; rfl) | (simp only [List.length_append, List.length_take, List.length_cons, List.length_nil, List.length_replicate, List.length_set] <;> omega))
local macro_rules | `(tactic| walk_at "bd") => `(tactic| first | assumption | exact X.enc_bd (by assumption) | exact X.rep_bd0 _ | exact X.two_bd (by omega) (by omega) | (refine X.set_bd ?_ (by omega) (by omega) <;> walk_at "bd") | (refine X.take_bd ?_ <;> walk_at "bd") | (refine X.app_bd ?_ ?_ <;> walk_at "bd"))
namespace X
open PySem PySem.Spec PyProof.Rows L2 G
section
variable {P : Program} {w : World} {K : PySem.W.Frag} {mg : Str → Option Value} {base : Heap} {A : Ads}
theorem ok_number_octets (T : Txt K mg A) : FnOk P w K mg base CX0 1 A.a_number_octets A.d_number_octets ["number", "count"] (sp_number_octets K A) := by
  refine T.F_number_octets.ok sc_number_octets (fun vs H Q E h => ?_) (fun cdv A' outer s H vs Q E hRm h => ?_)
  · obtain ⟨n, m, rfl, _⟩ := h
    rfl
  · obtain ⟨n, m, rfl, h0, h1, G0, Z0, s0, kq⟩ := h
    have hUn := hu_of hRm
    refine ⟨_, (pss_cons (ps_set (i := 2) sc_number_octets.nd rfl (.inl rfl) (pe_lst pa_nil)) (pss_cons (ps_for PassesOwn.never rfl (pi_range1 rfl T.z_range (pa_cons (pv 1) pa_nil)) (pg_name (i := 3) sc_number_octets.nd rfl (.inl rfl)) (pss_cons (ps_expr (pe_bm PySem.F.plainAttrs_list PySem.F.slot_list_append PySem.F.type_list_append mt_append (pv 2) (pa_cons (pe_op op_mod (pv 0) pe_int) pa_nil))) (pss_cons (ps_set (i := 0) sc_number_octets.nd rfl (.inl rfl) (pe_op op_fdiv (pv 0) pe_int)) pss_nil))) (pss_cons (ps_ret (pv 2)) pss_nil))), ?_⟩
    refine c_sig [some (V.int n), some (V.int m), none, none] rfl ?_
    refine c_set ?_
    refine c_lst ?_
    refine c_nil ?_
    refine ⟨sz1 (by show 0 ≤ 1000000; decide), fun p1 np1 => ?_⟩
    have s2 : Hs G0 H Z0 [c p1 (.lst ([]))] _ _ := s0.new np1 (.lst ([]))
    refine k_set [some (V.int n), some (V.int m), some (V.ref p1), none] rfl ?_
    refine s_forR1 (va (vv 1 rfl) va0) ⟨by walk_at "side", by walk_at "side"⟩ (fun i3 σ' H' => ∃ (Z' : Hp) (y__ : Option V) (ws : List Int) (nw : Int), σ' = [some (V.int nw), some (V.int m), some (V.ref p1), y__] ∧ Hs G0 H Z0 [c p1 (.lst (ws.map V.int))] H' Z' ∧ (ws = octN n i3) ∧ (nw = dvN n i3)) ?_ ?_ ?_
    · -- start
      refine ⟨_, _, ([] : List Int), n, rfl, s2.pick [0] (by decide) (by walk_at "finL"), ?_, ?_⟩
      · rfl
      · rfl
    · intro i3 σ' H' h4 hP; obtain ⟨Z', y__, ws, nw, rfl, sI, hI0, hI1⟩ := hP
      have hlw : ws.length < 1000000 := by rw [hI0, octN_len]; omega
      refine c_sig [some (V.int nw), some (V.int m), some (V.ref p1), some (V.int (i3 : Int))] rfl ?_
      obtain ⟨n6, en6⟩ : ∃ n_ : Int, n_ = (nw % 256) := ⟨_, rfl⟩
      have en60 : 0 ≤ n6 := by rw [en6]; exact Int.emod_nonneg _ (by walk_at "side")
      have en61 : n6 < 256 := by rw [en6]; exact Int.emod_lt_of_pos _ (by walk_at "side")
      refine s_appI (xs := ws) (sI.mem 0 rfl) (vv 2 rfl) (vis (v1 (C := fun _ j => 0 < j) (g := fun i j => .int (i % j)) (i := nw) (j := 256) (by walk_at "side") (vv 0 rfl) vc) (congrArg V.int en6.symm)) (by walk_at "side") ?_
      have s7 : Hs G0 H Z0 [c p1 (.lst ((ws ++ [n6]).map V.int))] _ _ := sI.wr 0 (.lst ((ws ++ [n6]).map V.int)) rfl
      obtain ⟨n8, en8⟩ : ∃ n_ : Int, n_ = (nw / 256) := ⟨_, rfl⟩
      refine s_set [some (V.int n8), some (V.int m), some (V.ref p1), some (V.int (i3 : Int))] (vis (v1 (C := CDiv) (g := fun i j => .int (i / j)) (i := nw) (j := 256) ⟨by walk_at "side", by walk_at "side"⟩ (vv 0 rfl) vc) (congrArg V.int en8.symm)) rfl ?_
      refine s_nx ?_
      refine ⟨_, _, ws ++ [n6], n8, rfl, s7.pick [0] (by decide) (by walk_at "finL"), ?_, ?_⟩
      · subst_vars; rfl
      · subst_vars; rfl
    · intro σ' H' hP; obtain ⟨Z', y__, ws, nw, rfl, sI, hI0, hI1⟩ := hP
      refine s_ret (vv 2 rfl) ?_
      have s9 : Hs G0 H Z0 [c p1 (.lst ((octI n m).map V.int))] _ _ := (sI.pick [0] (by decide) (by walk_at "finL"))
      exact fin (kq p1 _ _ s9 ) (by first | rfl | assumption)
end
end X
namespace X
open PySem PySem.Spec PyProof.Rows L2 G
section
variable {P : Program} {w : World} {K : PySem.W.Frag} {mg : Str → Option Value} {base : Heap} {A : Ads}
theorem ok_number_of (T : Txt K mg A) : FnOk P w K mg base CX0 1 A.a_number_of A.d_number_of ["octets"] (sp_number_of K A) := by
  refine T.F_number_of.ok sc_number_of (fun vs H Q E h => ?_) (fun cdv A' outer s H vs Q E hRm h => ?_)
  · obtain ⟨a, ns, rfl, _⟩ := h
    rfl
  · obtain ⟨a, ns, rfl, G0, Z0, s0, kq⟩ := h
    have hUn := hu_of hRm
    refine ⟨_, (pss_cons (ps_set (i := 1) sc_number_of.nd rfl (.inl rfl) pe_int) (pss_cons (ps_for PassesOwn.never rfl (RT.pi_revA rfl T.z_reversed (pv 0)) (pg_name (i := 2) sc_number_of.nd rfl (.inl rfl)) (pss_cons (ps_set (i := 1) sc_number_of.nd rfl (.inl rfl) (pe_op op_add (pe_op op_mul (pv 1) pe_int) (pv 2))) pss_nil)) (pss_cons (ps_ret (pv 1)) pss_nil))), ?_⟩
    refine c_sig [some (V.ref a), none, none] rfl ?_
    refine s_set [some (V.ref a), some (V.int 0), none] vc rfl ?_
    refine s_forV (vv 0 rfl) (SqL.of (s0.mem 0 rfl)) (fun i1 σ' H' => ∃ (Z' : Hp) (y_octet : Option V) (nt : Int), σ' = [some (V.ref a), some (V.int nt), y_octet] ∧ Hs G0 H Z0 [c a (.lst (ns.map V.int))] H' Z' ∧ (nt = valN (ns.drop (ns.length - i1)))) ?_ ?_ ?_ ?_
    · -- start
      refine ⟨_, _, 0, rfl, s0.pick [0] (by decide) (by walk_at "finL"), ?_⟩
      · rw [Nat.sub_zero, List.drop_length]; rfl
    · intro i1 σ' H' _ hP; obtain ⟨Z', y_octet, nt, rfl, sI, hI0⟩ := hP
      exact (SqL.of (sI.mem 0 rfl))
    · intro i1 x3 σ' H' h2l h2 hP; obtain ⟨Z', y_octet, nt, rfl, sI, hI0⟩ := hP
      obtain ⟨n4, rfl, h2n⟩ := map_int_get (xs := ns) h2
      refine c_sig [some (V.ref a), some (V.int nt), some (V.int n4)] rfl ?_
      obtain ⟨n5, en5⟩ : ∃ n_ : Int, n_ = ((nt * 256) + n4) := ⟨_, rfl⟩
      refine s_set [some (V.ref a), some (V.int n5), some (V.int n4)] (vis (v0 (g := fun i j => .int (i + j)) (v1 (C := CMul) (g := fun i j => .int (i * j)) (i := nt) (j := 256) (.inr (by walk_at "cmul")) (vv 1 rfl) vc) (vv 2 rfl)) (congrArg V.int en5.symm)) rfl ?_
      refine s_nx ?_
      refine ⟨_, _, n5, rfl, sI.pick [0] (by decide) (by walk_at "finL"), ?_⟩
      · rw [val_step h2l h2n, ← hI0]; assumption
    · intro σ' H' hP; obtain ⟨Z', y_octet, nt, rfl, sI, hI0⟩ := hP
      rw [List.length_map, Nat.sub_self, List.drop_zero] at hI0
      refine s_ret (vv 1 rfl) ?_
      have s6 : Hs G0 H Z0 [c a (.lst (ns.map V.int))] _ _ := (sI.pick [0] (by decide) (by walk_at "finL"))
      exact fin (kq  _ _ s6 ) (by first | rfl | exact congrArg V.int hI0 | exact congrArg V.int hI0.symm)
end
end X
namespace X
open PySem PySem.Spec PyProof.Rows L2 G
section
variable {P : Program} {w : World} {K : PySem.W.Frag} {mg : Str → Option Value} {base : Heap} {A : Ads}
theorem ok_is_code (T : Txt K mg A) : FnOk P w K mg base CX0 1 A.a_is_code A.d_is_code ["code"] (sp_is_code K A) := by
  refine T.F_is_code.ok sc_is_code (fun vs H Q E h => ?_) (fun cdv A' outer s H vs Q E hRm h => ?_)
  · obtain ⟨n, rfl, _⟩ := h
    rfl
  · obtain ⟨n, rfl, kq⟩ := h
    have hUn := hu_of hRm
    have s0 : Hs (fun _ => False) H (fun _ => none) [] H (fun _ => none) := Hs.start0
    refine ⟨_, (pss_cons (ps_ret (pe_and (pe_chain op_le op_le pe_int (pv 0) pe_int) (pe_one (pe_cmpR op_ne (pv 0) (pe_glob (v := .int 37) (by rfl) T.k_PERCENT (by exact ⟨_, rfl⟩)) (nomark _))))) pss_nil), ?_⟩
    refine c_sig [some (V.int n)] rfl ?_
    refine s_ret (vand (vchain (p := 32 ≤ n) (q := n ≤ 126) vc (vv 0 rfl) vc (fun _ q => r0 _ q) (fun _ q => r0 _ q)) (fun hc => (vne (vv 0 rfl) vc))) ?_
    exact fin kq (by rfl)
end
end X
namespace X
open PySem PySem.Spec PyProof.Rows L2 G
section
variable {P : Program} {w : World} {K : PySem.W.Frag} {mg : Str → Option Value} {base : Heap} {A : Ads}
theorem ok_is_text (T : Txt K mg A) : FnOk P w K mg base CX0 2 A.a_is_text A.d_is_text ["text"] (sp_is_text K A) := by
  have G_is_code : FnOk P w K mg base CX0 1 A.a_is_code A.d_is_code ["code"] (sp_is_code K A) := ok_is_code T
  refine T.F_is_text.ok sc_is_text (fun vs H Q E h => ?_) (fun cdv A' outer s H vs Q E hRm h => ?_)
  · obtain ⟨t, rfl, _⟩ := h
    rfl
  · obtain ⟨t, rfl, hl, G0, Z0, s0, kq⟩ := h
    have hUn := hu_of hRm
    refine ⟨_, (pss_cons (ps_ret (pe_callB (cr_all rfl) (by rfl) T.z_all (by decide +kernel) (pa_cons (pe_lc (own := [("char", 1)]) (g := gName 1) (tt := tYes) rfl sc_is_text.nd (pi_str (pv 0)) (blkOk_by (N := ["text", "char"]) (sc := defScope st_is_text) (by decide +kernel)) (fun _ _ _ _ _ => pg_name (i := 1) sc_is_text.nd rfl (Or.inl rfl)) (fun _ _ _ _ _ => pts_nil) (fun _ _ _ _ _ => (pe_call G_is_code (hRm.mono (by decide)) (by rfl) T.g_is_code T.F_is_code.kp T.b_is_code .nil pass0 (pa_cons (pe_callB call_ord (by rfl) T.z_ord (by decide +kernel) (pa_cons (pv 1) pa_nil)) pa_nil)))) pa_nil))) pss_nil), ?_⟩
    refine c_sig [some (V.str (sO t)), none] rfl ?_
    refine c_ret ?_
    refine c_cb ?_
    refine c_cons ?_
    refine c_lcS (a := t) (fun (c5 : Nat) => V.bl (decide (((32 ≤ (c5 : Int)) ∧ ((c5 : Int) ≤ 126)) ∧ ((c5 : Int) ≠ 37)))) s0 (vv 0 rfl) (by walk_at "side") (fun _ => rfl) (fun i1 c5 H4 h3 s2 => (vcall (va (vord (vv 1 rfl)) va0) (fun _ kC => ⟨(c5 : Int), rfl, kC⟩))) (fun p6 H8 s9 => ?_)
    have s10 : Hs G0 H Z0 [c p6 (.lst ((t.map (fun (c_ : Nat) => decide (((32 ≤ (c_ : Int)) ∧ ((c_ : Int) ≤ 126)) ∧ ((c_ : Int) ≠ 37)))).map V.bl))] _ _ := Hs.cg (by rw [← map_comp_V (fun (c_ : Nat) => decide (((32 ≤ (c_ : Int)) ∧ ((c_ : Int) ≤ 126)) ∧ ((c_ : Int) ≠ 37))) V.bl t]) s9
    refine c_nil ?_
    refine ⟨_, (t.map (fun (c_ : Nat) => decide (((32 ≤ (c_ : Int)) ∧ ((c_ : Int) ≤ 126)) ∧ ((c_ : Int) ≠ 37)))), rfl, (SqL.of (s10.mem 0 rfl)), ?_⟩
    have s11 : Hs G0 H Z0 [] _ _ := (s10.pick [] (by decide) (by walk_at "finL"))
    exact fin (kq  _ _ s11 ) (by exact congrArg V.bl (all_gd _))
end
end X
namespace X
open PySem PySem.Spec PyProof.Rows L2 G
section
variable {P : Program} {w : World} {K : PySem.W.Frag} {mg : Str → Option Value} {base : Heap} {A : Ads}
theorem ok_octets_of (T : Txt K mg A) : FnOk P w K mg base CX0 1 A.a_octets_of A.d_octets_of ["text"] (sp_octets_of K A) := by
  refine T.F_octets_of.ok sc_octets_of (fun vs H Q E h => ?_) (fun cdv A' outer s H vs Q E hRm h => ?_)
  · obtain ⟨t, rfl, _⟩ := h
    rfl
  · obtain ⟨t, rfl, hl, G0, Z0, s0, kq⟩ := h
    have hUn := hu_of hRm
    refine ⟨_, (pss_cons (ps_ret (pe_lc (own := [("char", 1)]) (g := gName 1) (tt := tYes) rfl sc_octets_of.nd (pi_str (pv 0)) (blkOk_by (N := ["text", "char"]) (sc := defScope st_octets_of) (by decide +kernel)) (fun _ _ _ _ _ => pg_name (i := 1) sc_octets_of.nd rfl (Or.inl rfl)) (fun _ _ _ _ _ => pts_nil) (fun _ _ _ _ _ => (pe_callB call_ord (by rfl) T.z_ord (by decide +kernel) (pa_cons (pv 1) pa_nil))))) pss_nil), ?_⟩
    refine c_sig [some (V.str (sO t)), none] rfl ?_
    refine c_ret ?_
    refine c_lcS (a := t) (fun (c5 : Nat) => V.int (c5 : Int)) s0 (vv 0 rfl) (by walk_at "side") (fun _ => rfl) (fun i1 c5 H4 h3 s2 => (vord (vv 1 rfl))) (fun p6 H8 s9 => ?_)
    have s10 : Hs G0 H Z0 [c p6 (.lst ((t.map (fun (c_ : Nat) => (c_ : Int))).map V.int))] _ _ := Hs.cg (by rw [← map_comp_V (fun (c_ : Nat) => (c_ : Int)) V.int t]) s9
    have s11 : Hs G0 H Z0 [c p6 (.lst ((t.map (fun (c_ : Nat) => (c_ : Int))).map V.int))] _ _ := (s10.pick [0] (by decide) (by walk_at "finL"))
    exact fin (kq p6 _ _ s11 ) (by rfl)
end
end X
namespace X
open PySem PySem.Spec PyProof.Rows L2 G
section
variable {P : Program} {w : World} {K : PySem.W.Frag} {mg : Str → Option Value} {base : Heap} {A : Ads}
theorem ok_char_of (T : Txt K mg A) : FnOk P w K mg base CX0 1 A.a_char_of A.d_char_of ["code"] (sp_char_of K A) := by
  refine T.F_char_of.ok sc_char_of (fun vs H Q E h => ?_) (fun cdv A' outer s H vs Q E hRm h => ?_)
  · obtain ⟨n, rfl, _⟩ := h
    rfl
  · obtain ⟨n, rfl, h0, h1, h2, kq⟩ := h
    have hUn := hu_of hRm
    have s0 : Hs (fun _ => False) H (fun _ => none) [] H (fun _ => none) := Hs.start0
    refine ⟨_, (pss_cons (ps_if (pt_cmpR op_lt (pv 0) (pe_glob (v := .int 37) (by rfl) T.k_PERCENT (by exact ⟨_, rfl⟩)) (nomark _)) (pss_cons (ps_ret (pe_ix ix_str (pe_glob (v := .str (" !\"#$" : Str)) (by rfl) T.k_LOW (by exact ⟨_, rfl⟩)) (pe_op op_sub (pv 0) pe_int) (fun _ _ => rfl))) pss_nil) pss_nil) (pss_cons (ps_ret (pe_ix ix_str (pe_glob (v := .str ("&'()*+,-./0123456789:;<=>?@ABCDEFGHIJKLMNOPQRSTUVWXYZ[\\]^_`abcdefghijklmnopqrstuvwxyz{|}~" : Str)) (by rfl) T.k_HIGH (by exact ⟨_, rfl⟩)) (pe_op op_sub (pe_op op_sub (pv 0) (pe_glob (v := .int 37) (by rfl) T.k_PERCENT (by exact ⟨_, rfl⟩))) pe_int) (fun _ _ => rfl))) pss_nil)), ?_⟩
    refine c_sig [some (V.int n)] rfl ?_
    refine s_if (p := n < 37) (vtest (v0 (g := fun i j => .bl (decide (i < j))) (vv 0 rfl) vc)) (fun h1 => ?_) (fun h1 => ?_)
    · -- then line 24
      refine s_ret (vixS (a := ([32, 33, 34, 35, 36])) (by walk_at "side") (at_gn (by walk_at "side") (by walk_at "side")) (vis vc (w := .str (sO ([32, 33, 34, 35, 36]))) (congrArg V.str (by decide +kernel))) (v0 (g := fun i j => .int (i - j)) (vv 0 rfl) vc)) ?_
      exact fin kq (by first | exact congrArg (fun c => V.str (sO [c])) (low_ch (by omega) (by omega)) | exact congrArg (fun c => V.str (sO [c])) (high_ch (by omega) (by omega)))
    · -- else line 24
      refine s_nxs ?_
      refine s_ret (vixS (a := ([38, 39, 40, 41, 42, 43, 44, 45, 46, 47, 48, 49, 50, 51, 52, 53, 54, 55, 56, 57, 58, 59, 60, 61, 62, 63, 64, 65, 66, 67, 68, 69, 70, 71, 72, 73, 74, 75, 76, 77, 78, 79, 80, 81, 82, 83, 84, 85, 86, 87, 88, 89, 90, 91, 92, 93, 94, 95, 96, 97, 98, 99, 100, 101, 102, 103, 104, 105, 106, 107, 108, 109, 110, 111, 112, 113, 114, 115, 116, 117, 118, 119, 120, 121, 122, 123, 124, 125, 126])) (by walk_at "side") (at_gn (by walk_at "side") (by walk_at "side")) (vis vc (w := .str (sO ([38, 39, 40, 41, 42, 43, 44, 45, 46, 47, 48, 49, 50, 51, 52, 53, 54, 55, 56, 57, 58, 59, 60, 61, 62, 63, 64, 65, 66, 67, 68, 69, 70, 71, 72, 73, 74, 75, 76, 77, 78, 79, 80, 81, 82, 83, 84, 85, 86, 87, 88, 89, 90, 91, 92, 93, 94, 95, 96, 97, 98, 99, 100, 101, 102, 103, 104, 105, 106, 107, 108, 109, 110, 111, 112, 113, 114, 115, 116, 117, 118, 119, 120, 121, 122, 123, 124, 125, 126]))) (congrArg V.str (by decide +kernel))) (v0 (g := fun i j => .int (i - j)) (v0 (g := fun i j => .int (i - j)) (vv 0 rfl) vc) vc)) ?_
      exact fin kq (by first | exact congrArg (fun c => V.str (sO [c])) (low_ch (by omega) (by omega)) | exact congrArg (fun c => V.str (sO [c])) (high_ch (by omega) (by omega)))
end
end X
namespace X
open PySem PySem.Spec PyProof.Rows L2 G
section
variable {P : Program} {w : World} {K : PySem.W.Frag} {mg : Str → Option Value} {base : Heap} {A : Ads}
theorem ok_text_of (T : Txt K mg A) : FnOk P w K mg base CX0 2 A.a_text_of A.d_text_of ["octets"] (sp_text_of K A) := by
  have G_is_code : FnOk P w K mg base CX0 1 A.a_is_code A.d_is_code ["code"] (sp_is_code K A) := ok_is_code T
  have G_char_of : FnOk P w K mg base CX0 1 A.a_char_of A.d_char_of ["code"] (sp_char_of K A) := ok_char_of T
  refine T.F_text_of.ok sc_text_of (fun vs H Q E h => ?_) (fun cdv A' outer s H vs Q E hRm h => ?_)
  · rcases h with h | h
    · obtain ⟨a, ns, rfl, _⟩ := h
      rfl
    · obtain ⟨a, ns, rfl, _⟩ := h
      rfl
  · rcases h with h | h
    · obtain ⟨a, ns, rfl, hl, hg, G0, Z0, s0, kq⟩ := h
      have hUn := hu_of hRm
      refine ⟨_, (pss_cons (ps_set (i := 1) sc_text_of.nd rfl (.inl rfl) (pe_lst pa_nil)) (pss_cons (ps_for PassesOwn.never rfl (pi_list (pv 0)) (pg_name (i := 2) sc_text_of.nd rfl (.inl rfl)) (pss_cons (ps_if (pt_not (pt_val (pe_call G_is_code (hRm.mono (by decide)) (by rfl) T.g_is_code T.F_is_code.kp T.b_is_code .nil pass0 (pa_cons (pv 2) pa_nil)) (fun _ => rfl))) (pss_cons (ps_ret pe_non) pss_nil) pss_nil) (pss_cons (ps_expr (pe_bm PySem.F.plainAttrs_list PySem.F.slot_list_append PySem.F.type_list_append mt_append (pv 1) (pa_cons (pe_call G_char_of (hRm.mono (by decide)) (by rfl) T.g_char_of T.F_char_of.kp T.b_char_of .nil pass0 (pa_cons (pv 2) pa_nil)) pa_nil))) pss_nil))) (pss_cons (ps_ret (pe_join pe_str (pv 1))) pss_nil))), ?_⟩
      refine c_sig [some (V.ref a), none, none] rfl ?_
      refine c_set ?_
      refine c_lst ?_
      refine c_nil ?_
      refine ⟨sz1 (by show 0 ≤ 1000000; decide), fun p1 np1 => ?_⟩
      have s2 : Hs G0 H Z0 [c p1 (.lst ([])), c a (.lst (ns.map V.int))] _ _ := s0.new np1 (.lst ([]))
      refine k_set [some (V.ref a), some (V.ref p1), none] rfl ?_
      refine s_forL (vv 0 rfl) (SqL.of (s2.mem 1 rfl)) (fun i3 σ' H' => ∃ (Z' : Hp) (y_code : Option V) (ws : List V), σ' = [some (V.ref a), some (V.ref p1), y_code] ∧ Hs G0 H Z0 [c p1 (.lst (ws)), c a (.lst (ns.map V.int))] H' Z' ∧ (ws = TL (ns.take i3)) ∧ (∀ n ∈ ns.take i3, GdI n)) ?_ ?_ ?_ ?_
      · -- start
        refine ⟨_, _, [], rfl, s2.pick [0, 1] (by decide) (by walk_at "finL"), ?_, ?_⟩
        · rfl
        · intro n hn; cases hn
      · intro i3 σ' H' _ hP; obtain ⟨Z', y_code, ws, rfl, sI, hI0, hI1⟩ := hP
        exact (SqL.of (sI.mem 1 rfl))
      · intro i3 x5 σ' H' h4 hP; obtain ⟨Z', y_code, ws, rfl, sI, hI0, hI1⟩ := hP
        obtain ⟨n6, rfl, h4n⟩ := map_int_get (xs := ns) h4
        have hLw : ws.length ≤ 10000 := by rw [hI0]; unfold TL; rw [List.length_map, List.length_take]; omega
        refine c_sig [some (V.ref a), some (V.ref p1), some (V.int n6)] rfl ?_
        refine s_if (p := ¬ (((32 ≤ n6) ∧ (n6 ≤ 126)) ∧ (n6 ≠ 37))) (anot (vB (vcall (va (vv 2 rfl) va0) (fun _ kC => ⟨n6, rfl, kC⟩)))) (fun h7 => ?_) (fun h7 => ?_)
        · -- then line 30
          refine s_ret vc ?_
          exfalso; have hgn := hg _ (mem_atI (by assumption)); unfold GdI at hgn; omega
        · -- else line 30
          refine s_nxs ?_
          refine s_app (xs := ws) (sI.mem 0 rfl) (vv 1 rfl) (vcall (va (vv 2 rfl) va0) (fun _ kC => ⟨n6, rfl, (by walk_at "side"), (by walk_at "side"), (by walk_at "side"), kC⟩)) (by walk_at "side") ?_
          have s8 : Hs G0 H Z0 [c p1 (.lst (ws ++ [V.str (sO ([n6.toNat]))])), c a (.lst (ns.map V.int))] _ _ := sI.wr 0 (.lst (ws ++ [V.str (sO ([n6.toNat]))])) rfl
          refine s_nx ?_
          refine ⟨_, _, ws ++ [V.str (sO ([n6.toNat]))], rfl, s8.pick [0, 1] (by decide) (by walk_at "finL"), ?_, ?_⟩
          · rw [take_nextI h4n, TL_app, ← hI0]
          · rw [take_nextI h4n]; intro m hm; rcases List.mem_append.mp hm with z | z
            · exact hI1 m z
            · rw [List.mem_singleton.mp z]; unfold GdI; omega
      · intro σ' H' hP; obtain ⟨Z', y_code, ws, rfl, sI, hI0, hI1⟩ := hP
        refine c_ret ?_
        refine c_m1 ?_
        refine (vis vc (w := .str (sO ([] : List Nat))) (congrArg V.str (by decide +kernel))) _ ?_
        refine ⟨⟨_, rfl⟩, ?_⟩
        refine (vv 1 rfl) _ ?_
        refine r_join (ws := ns.map (fun n => [n.toNat])) ((show ws = ((ns.map (fun n => [n.toNat])).map sO).map V.str from by rw [hI0, List.take_of_length_le (by simp)]; exact TL_eq ns) ▸ (SqL.of (sI.mem 0 rfl))) (by rw [flat1, List.length_map]; omega) ?_
        have s9 : Hs G0 H Z0 [c a (.lst (ns.map V.int))] _ _ := (sI.pick [1] (by decide) (by walk_at "finL"))
        exact fin (kq  _ _ s9 ) (by first | rfl | exact congrArg (fun c => V.str (sO c)) (flat1 ns))
    · obtain ⟨a, ns, rfl, hl, hb, G0, Z0, s0, kq⟩ := h
      have hUn := hu_of hRm
      refine ⟨_, (pss_cons (ps_set (i := 1) sc_text_of.nd rfl (.inl rfl) (pe_lst pa_nil)) (pss_cons (ps_for PassesOwn.never rfl (pi_list (pv 0)) (pg_name (i := 2) sc_text_of.nd rfl (.inl rfl)) (pss_cons (ps_if (pt_not (pt_val (pe_call G_is_code (hRm.mono (by decide)) (by rfl) T.g_is_code T.F_is_code.kp T.b_is_code .nil pass0 (pa_cons (pv 2) pa_nil)) (fun _ => rfl))) (pss_cons (ps_ret pe_non) pss_nil) pss_nil) (pss_cons (ps_expr (pe_bm PySem.F.plainAttrs_list PySem.F.slot_list_append PySem.F.type_list_append mt_append (pv 1) (pa_cons (pe_call G_char_of (hRm.mono (by decide)) (by rfl) T.g_char_of T.F_char_of.kp T.b_char_of .nil pass0 (pa_cons (pv 2) pa_nil)) pa_nil))) pss_nil))) (pss_cons ps_never pss_nil))), ?_⟩
      refine c_sig [some (V.ref a), none, none] rfl ?_
      refine c_set ?_
      refine c_lst ?_
      refine c_nil ?_
      refine ⟨sz1 (by show 0 ≤ 1000000; decide), fun p10 np10 => ?_⟩
      have s11 : Hs G0 H Z0 [c p10 (.lst ([])), c a (.lst (ns.map V.int))] _ _ := s0.new np10 (.lst ([]))
      refine k_set [some (V.ref a), some (V.ref p10), none] rfl ?_
      refine s_forL (vv 0 rfl) (SqL.of (s11.mem 1 rfl)) (fun i12 σ' H' => ∃ (Z' : Hp) (y_code : Option V) (ws : List V), σ' = [some (V.ref a), some (V.ref p10), y_code] ∧ Hs G0 H Z0 [c p10 (.lst (ws)), c a (.lst (ns.map V.int))] H' Z' ∧ (ws = TL (ns.take i12)) ∧ (∀ n ∈ ns.take i12, GdI n)) ?_ ?_ ?_ ?_
      · -- start
        refine ⟨_, _, [], rfl, s11.pick [0, 1] (by decide) (by walk_at "finL"), ?_, ?_⟩
        · rfl
        · intro n hn; cases hn
      · intro i12 σ' H' _ hP; obtain ⟨Z', y_code, ws, rfl, sI, hI0, hI1⟩ := hP
        exact (SqL.of (sI.mem 1 rfl))
      · intro i12 x14 σ' H' h13 hP; obtain ⟨Z', y_code, ws, rfl, sI, hI0, hI1⟩ := hP
        obtain ⟨n15, rfl, h13n⟩ := map_int_get (xs := ns) h13
        have hLw : ws.length ≤ 10000 := by rw [hI0]; unfold TL; rw [List.length_map, List.length_take]; omega
        refine c_sig [some (V.ref a), some (V.ref p10), some (V.int n15)] rfl ?_
        refine s_if (p := ¬ (((32 ≤ n15) ∧ (n15 ≤ 126)) ∧ (n15 ≠ 37))) (anot (vB (vcall (va (vv 2 rfl) va0) (fun _ kC => ⟨n15, rfl, kC⟩)))) (fun h16 => ?_) (fun h16 => ?_)
        · -- then line 30
          refine s_ret vc ?_
          have s17 : Hs G0 H Z0 [c a (.lst (ns.map V.int))] _ _ := (sI.pick [1] (by decide) (by walk_at "finL"))
          exact fin (kq  _ _ s17 ) (by first | rfl | exact congrArg (fun c => V.str (sO c)) (flat1 ns))
        · -- else line 30
          refine s_nxs ?_
          refine s_app (xs := ws) (sI.mem 0 rfl) (vv 1 rfl) (vcall (va (vv 2 rfl) va0) (fun _ kC => ⟨n15, rfl, (by walk_at "side"), (by walk_at "side"), (by walk_at "side"), kC⟩)) (by walk_at "side") ?_
          have s18 : Hs G0 H Z0 [c p10 (.lst (ws ++ [V.str (sO ([n15.toNat]))])), c a (.lst (ns.map V.int))] _ _ := sI.wr 0 (.lst (ws ++ [V.str (sO ([n15.toNat]))])) rfl
          refine s_nx ?_
          refine ⟨_, _, ws ++ [V.str (sO ([n15.toNat]))], rfl, s18.pick [0, 1] (by decide) (by walk_at "finL"), ?_, ?_⟩
          · rw [take_nextI h13n, TL_app, ← hI0]
          · rw [take_nextI h13n]; intro m hm; rcases List.mem_append.mp hm with z | z
            · exact hI1 m z
            · rw [List.mem_singleton.mp z]; unfold GdI; omega
      · intro σ' H' hP; obtain ⟨Z', y_code, ws, rfl, sI, hI0, hI1⟩ := hP
        rw [List.take_of_length_le (by simp)] at hI1; exact absurd hI1 hb
end
end X
namespace X
open PySem PySem.Spec PyProof.Rows L2 G
section
variable {P : Program} {w : World} {K : PySem.W.Frag} {mg : Str → Option Value} {base : Heap} {A : Ads}
theorem ok_is_name (T : Txt K mg A) : FnOk P w K mg base CX0 3 A.a_is_name A.d_is_name ["text"] (sp_is_name K A) := by
  have G_is_text : FnOk P w K mg base CX0 2 A.a_is_text A.d_is_text ["text"] (sp_is_text K A) := ok_is_text T
  refine T.F_is_name.ok sc_is_name (fun vs H Q E h => ?_) (fun cdv A' outer s H vs Q E hRm h => ?_)
  · obtain ⟨t, rfl, _⟩ := h
    rfl
  · obtain ⟨t, rfl, hl, G0, Z0, s0, kq⟩ := h
    have hUn := hu_of hRm
    refine ⟨_, (pss_cons (ps_if (pw_or (pt_cmpR op_lt (pe_callB call_len_str (by rfl) T.z_len PySem.boot_len (pa_cons (pv 0) pa_nil)) pe_int (nomark _)) (pw_or (pt_cmpR op_gt (pe_callB call_len_str (by rfl) T.z_len PySem.boot_len (pa_cons (pv 0) pa_nil)) (pe_glob (v := .int 28) (by rfl) T.k_MOST_SIGNS (by exact ⟨_, rfl⟩)) (nomark _)) (pw_or1 (pt_cmpR op_in_seq (pv 0) (pe_tup (pa_cons pe_str (pa_cons pe_str pa_nil))) (by with_unfolding_all rfl))))).pt (pss_cons (ps_ret pe_bl) pss_nil) pss_nil) (pss_cons (ps_ret (pe_and (pe_call G_is_text (hRm.mono (by decide)) (by rfl) T.g_is_text T.F_is_text.kp T.b_is_text .nil pass0 (pa_cons (pv 0) pa_nil)) (pe_one (pe_cmpR op_notIn_sign pe_str (pv 0) (by with_unfolding_all rfl))))) pss_nil)), ?_⟩
    refine c_sig [some (V.str (sO t))] rfl ?_
    refine c_ifS ?_
    refine c_or ?_
    refine (vtest (v0 (g := fun i j => .bl (decide (i < j))) (vlenS (a := t) (by walk_at "side") (vv 0 rfl)) vc)) _ ?_
    refine c_ite (p := (t.length : Int) < 1) (fun h2 => ?_) (fun h2 => ?_)
    · -- yes
      refine iteT ?_
      refine s_ret vc ?_
      have s3 : Hs G0 H Z0 [] _ _ := (s0.pick [] (by decide) (by walk_at "finL"))
      exact fin (kq  _ _ s3 ) (by exact congrArg V.bl (by first | exact nm_f (.inl (by assumption)) | exact nm_f (.inr (.inl (by assumption))) | exact nm_f (.inr (.inr (by assumption))) | exact nm_t (by assumption) (by assumption) (by assumption)))
    · -- no
      refine c_or ?_
      refine (vtest (v0 (g := fun i j => .bl (decide (j < i))) (vlenS (a := t) (by walk_at "side") (vv 0 rfl)) vc)) _ ?_
      refine c_ite (p := (t.length : Int) > 28) (fun h4 => ?_) (fun h4 => ?_)
      · -- yes
        refine iteT ?_
        refine s_ret vc ?_
        have s5 : Hs G0 H Z0 [] _ _ := (s0.pick [] (by decide) (by walk_at "finL"))
        exact fin (kq  _ _ s5 ) (by exact congrArg V.bl (by first | exact nm_f (.inl (by assumption)) | exact nm_f (.inr (.inl (by assumption))) | exact nm_f (.inr (.inr (by assumption))) | exact nm_t (by assumption) (by assumption) (by assumption)))
      · -- no
        refine c_test ?_
        refine c_op ?_
        refine (vv 0 rfl) _ ?_
        refine c_tup ?_
        refine c_cons ?_
        refine (vis vc (w := .str (sO ([46]))) (congrArg V.str (by decide +kernel))) _ ?_
        refine c_cons ?_
        refine (vis vc (w := .str (sO ([46, 46]))) (congrArg V.str (by decide +kernel))) _ ?_
        refine c_nil ?_
        refine ⟨sz1 (by show 2 ≤ 1000000; decide), fun p7 np7 => ?_⟩
        have s8 : Hs G0 H Z0 [fz p7 (.tup ([V.str (sO ([46])), V.str (sO ([46, 46]))]))] _ _ := s0.newz np7 (.tup ([V.str (sO ([46])), V.str (sO ([46, 46]))]))
        refine r_inS (ts := ([[46], [46, 46]] : List (List Nat))) rfl (.inr (SqT.of (s8.fzm 0 rfl))) ?_
        refine ⟨_, rfl, ?_⟩
        refine c_ite (p := t ∈ ([[46], [46, 46]] : List (List Nat))) (fun h6 => ?_) (fun h6 => ?_)
        · -- yes
          refine s_ret vc ?_
          have s9 : Hs G0 H Z0 [] _ _ := (s8.pick [] (by decide) (by walk_at "finL"))
          exact fin (kq  _ _ s9 ) (by exact congrArg V.bl (by first | exact nm_f (.inl (by assumption)) | exact nm_f (.inr (.inl (by assumption))) | exact nm_f (.inr (.inr (by assumption))) | exact nm_t (by assumption) (by assumption) (by assumption)))
        · -- no
          refine s_nxs ?_
          refine c_ret ?_
          refine c_andW (pP := ∀ c ∈ t, Gd c) (qQ := ¬ (47 ∈ t)) s8 (fun Q' kQ => ?_) (fun H11 Z13 s12 h10 Q' kQ => ?_) (fun H14 Z16 s15 => ?_)
          · -- the first part
            refine c_callx ?_
            refine c_cons ?_
            refine (vv 0 rfl) _ ?_
            refine c_nil ?_
            obtain ⟨G17, g18, k19⟩ := s8.giv [] [0] rfl
            refine ⟨t, rfl, (by walk_at "side"), G17, _, g18, fun H20 Z21 r22 => ?_⟩
            have s23 : Hs G0 H Z0 [fz p7 (.tup ([V.str (sO ([46])), V.str (sO ([46, 46]))]))] _ _ := k19 _ _ _ r22
            exact kQ _ _ (s23.pick [0] (by decide) rfl)
          · -- the second part
            refine (vninC (c := 47) (b := t) (vis vc (w := .str (sO ([47]))) (congrArg V.str (by decide +kernel))) (vv 0 rfl)) _ ?_
            exact kQ _ _ (s12.pick [0] (by decide) rfl)
          · -- on
            have s24 : Hs G0 H Z0 [] _ _ := (s15.pick [] (by decide) (by walk_at "finL"))
            exact fin (kq  _ _ s24 ) (by exact congrArg V.bl (by first | exact nm_f (.inl (by assumption)) | exact nm_f (.inr (.inl (by assumption))) | exact nm_f (.inr (.inr (by assumption))) | exact nm_t (by assumption) (by assumption) (by assumption)))
end
end X
namespace X
open PySem PySem.Spec PyProof.Rows L2 G
section
variable {P : Program} {w : World} {K : PySem.W.Frag} {mg : Str → Option Value} {base : Heap} {A : Ads}
theorem ok_encode_entry (T : Txt K mg A) : FnOk P w K mg base CX0 2 A.a_encode_entry A.d_encode_entry ["name", "number"] (sp_encode_entry K A) := by
  have G_number_octets : FnOk P w K mg base CX0 1 A.a_number_octets A.d_number_octets ["number", "count"] (sp_number_octets K A) := ok_number_octets T
  have G_octets_of : FnOk P w K mg base CX0 1 A.a_octets_of A.d_octets_of ["text"] (sp_octets_of K A) := ok_octets_of T
  refine T.F_encode_entry.ok sc_encode_entry (fun vs H Q E h => ?_) (fun cdv A' outer s H vs Q E hRm h => ?_)
  · obtain ⟨t, n, rfl, _⟩ := h
    rfl
  · obtain ⟨t, n, rfl, hl, G0, Z0, s0, kq⟩ := h
    have hUn := hu_of hRm
    refine ⟨_, (pss_cons (ps_set (i := 2) sc_encode_entry.nd rfl (.inl rfl) (pe_op op_cat (pe_op op_cat (pe_call G_number_octets (hRm.mono (by decide)) (by rfl) T.g_number_octets T.F_number_octets.kp T.b_number_octets .nil pass0 (pa_cons (pv 1) (pa_cons pe_int pa_nil))) (pe_lst (pa_cons (pe_callB call_len_str (by rfl) T.z_len PySem.boot_len (pa_cons (pv 0) pa_nil)) pa_nil))) (pe_call G_octets_of (hRm.mono (by decide)) (by rfl) T.g_octets_of T.F_octets_of.kp T.b_octets_of .nil pass0 (pa_cons (pv 0) pa_nil)))) (pss_cons (ps_ret (pe_op op_cat (pv 2) (pe_op op_rep (pe_lst (pa_cons pe_int pa_nil)) (pe_op op_sub (pe_glob (v := .int 32) (by rfl) T.k_ENTRY_OCTETS (by exact ⟨_, rfl⟩)) (pe_callB call_len_seq (by rfl) T.z_len PySem.boot_len (pa_cons (pv 2) pa_nil)))))) pss_nil)), ?_⟩
    refine c_sig [some (V.str (sO t)), some (V.int n), none] rfl ?_
    refine c_set ?_
    refine c_op ?_
    refine c_op ?_
    refine c_callx ?_
    refine c_cons ?_
    refine (vv 1 rfl) _ ?_
    refine c_cons ?_
    refine vc _ ?_
    refine c_nil ?_
    obtain ⟨G2, g3, k4⟩ := s0.giv [] [] rfl
    refine ⟨n, 2, rfl, (by walk_at "side"), (by walk_at "side"), G2, _, g3, fun p_1 H5 Z6 r7 => ?_⟩
    have s8 : Hs G0 H Z0 [c p_1 (.lst ((octI n (2 : Int)).map V.int))] _ _ := k4 _ _ _ r7
    refine c_lst ?_
    refine c_cons ?_
    obtain ⟨n9, en9⟩ : ∃ n_ : Int, n_ = ((t.length : Int)) := ⟨_, rfl⟩
    refine (vis (vlenS (a := t) (by walk_at "side") (vv 0 rfl)) (congrArg V.int en9.symm)) _ ?_
    refine c_nil ?_
    refine ⟨sz1 (by show 1 ≤ 1000000; decide), fun p10 np10 => ?_⟩
    have s11 : Hs G0 H Z0 [c p10 (.lst ([V.int n9])), c p_1 (.lst ((octI n (2 : Int)).map V.int))] _ _ := s8.new np10 (.lst ([V.int n9]))
    refine c_cat (s11.mem 1 rfl) (s11.mem 0 rfl) (by walk_at "side") (fun p12 np12 => ?_)
    have s13 : Hs G0 H Z0 [c p12 (.lst (((octI n (2 : Int)) ++ ([n9])).map V.int)), c p10 (.lst ([V.int n9])), c p_1 (.lst ((octI n (2 : Int)).map V.int))] _ _ := Hs.cgh ((cat_eq (a := octI n (2 : Int)) (b := [n9]) rfl rfl).symm) (s11.new np12 (.lst (((octI n (2 : Int)).map V.int) ++ ([V.int n9]))))
    refine c_callx ?_
    refine c_cons ?_
    refine (vv 0 rfl) _ ?_
    refine c_nil ?_
    obtain ⟨G15, g16, k17⟩ := s13.giv [] [0, 1, 2] rfl
    refine ⟨t, rfl, (by walk_at "side"), G15, _, g16, fun p_14 H18 Z19 r20 => ?_⟩
    have s21 : Hs G0 H Z0 [c p_14 (.lst ((t.map (fun (c_ : Nat) => (c_ : Int))).map V.int)), c p12 (.lst (((octI n (2 : Int)) ++ ([n9])).map V.int)), c p10 (.lst ([V.int n9])), c p_1 (.lst ((octI n (2 : Int)).map V.int))] _ _ := k17 _ _ _ r20
    refine c_cat (s21.mem 1 rfl) (s21.mem 0 rfl) (by walk_at "side") (fun p22 np22 => ?_)
    have s23 : Hs G0 H Z0 [c p22 (.lst ((((octI n (2 : Int)) ++ ([n9])) ++ (t.map (fun (c_ : Nat) => (c_ : Int)))).map V.int)), c p_14 (.lst ((t.map (fun (c_ : Nat) => (c_ : Int))).map V.int)), c p12 (.lst (((octI n (2 : Int)) ++ ([n9])).map V.int)), c p10 (.lst ([V.int n9])), c p_1 (.lst ((octI n (2 : Int)).map V.int))] _ _ := Hs.cgh ((cat_eq (a := (octI n (2 : Int)) ++ ([n9])) (b := t.map (fun (c_ : Nat) => (c_ : Int))) rfl rfl).symm) (s21.new np22 (.lst ((((octI n (2 : Int)) ++ ([n9])).map V.int) ++ ((t.map (fun (c_ : Nat) => (c_ : Int))).map V.int))))
    refine k_set [some (V.str (sO t)), some (V.int n), some (V.ref p22)] rfl ?_
    have hel : (((octI n (2 : Int)) ++ ([n9])) ++ (t.map (fun (c_ : Nat) => (c_ : Int)))).length = 3 + t.length := by simp [octI, octN_len]; omega
    refine c_ret ?_
    refine c_op ?_
    refine (vv 2 rfl) _ ?_
    refine c_op ?_
    refine c_lst ?_
    refine c_cons ?_
    refine vc _ ?_
    refine c_nil ?_
    refine ⟨sz1 (by show 1 ≤ 1000000; decide), fun p24 np24 => ?_⟩
    have s25 : Hs G0 H Z0 [c p24 (.lst ([V.int 0])), c p22 (.lst ((((octI n (2 : Int)) ++ ([n9])) ++ (t.map (fun (c_ : Nat) => (c_ : Int)))).map V.int)), c p_14 (.lst ((t.map (fun (c_ : Nat) => (c_ : Int))).map V.int)), c p12 (.lst (((octI n (2 : Int)) ++ ([n9])).map V.int)), c p10 (.lst ([V.int n9])), c p_1 (.lst ((octI n (2 : Int)).map V.int))] _ _ := s23.new np24 (.lst ([V.int 0]))
    obtain ⟨n26, en26⟩ : ∃ n_ : Int, n_ = (32 - ((((octI n (2 : Int)) ++ ([n9])) ++ (t.map (fun (c_ : Nat) => (c_ : Int)))).length : Int)) := ⟨_, rfl⟩
    refine (vis (v0 (g := fun i j => .int (i - j)) vc (vis (vlenL (vv 2 rfl) (xs := (((octI n (2 : Int)) ++ ([n9])) ++ (t.map (fun (c_ : Nat) => (c_ : Int)))).map V.int) (SqL.of (s25.mem 1 rfl))) (congrArg (fun n : Nat => V.int (n : Int)) (List.length_map ..)))) (congrArg V.int en26.symm)) _ ?_
    refine ⟨_, _, _, rfl, rfl, (s25.mem 0 rfl), by walk_at "side", by walk_at "side", sz1 (by walk_at "side"), fun p27 np27 => ?_⟩
    have s28 : Hs G0 H Z0 [c p27 (.lst ((List.replicate n26.toNat 0).map V.int)), c p24 (.lst ([V.int 0])), c p22 (.lst ((((octI n (2 : Int)) ++ ([n9])) ++ (t.map (fun (c_ : Nat) => (c_ : Int)))).map V.int)), c p_14 (.lst ((t.map (fun (c_ : Nat) => (c_ : Int))).map V.int)), c p12 (.lst (((octI n (2 : Int)) ++ ([n9])).map V.int)), c p10 (.lst ([V.int n9])), c p_1 (.lst ((octI n (2 : Int)).map V.int))] _ _ := Hs.cgh (congrArg HO.lst ((List.map_replicate ..).trans (rep_one _ _).symm)) (s25.new np27 (.lst ((List.replicate n26.toNat [V.int 0]).flatten)))
    refine c_cat (s28.mem 2 rfl) (s28.mem 0 rfl) (by walk_at "side") (fun p29 np29 => ?_)
    have s30 : Hs G0 H Z0 [c p29 (.lst (((((octI n (2 : Int)) ++ ([n9])) ++ (t.map (fun (c_ : Nat) => (c_ : Int)))) ++ (List.replicate n26.toNat 0)).map V.int)), c p27 (.lst ((List.replicate n26.toNat 0).map V.int)), c p24 (.lst ([V.int 0])), c p22 (.lst ((((octI n (2 : Int)) ++ ([n9])) ++ (t.map (fun (c_ : Nat) => (c_ : Int)))).map V.int)), c p_14 (.lst ((t.map (fun (c_ : Nat) => (c_ : Int))).map V.int)), c p12 (.lst (((octI n (2 : Int)) ++ ([n9])).map V.int)), c p10 (.lst ([V.int n9])), c p_1 (.lst ((octI n (2 : Int)).map V.int))] _ _ := Hs.cgh ((cat_eq (a := ((octI n (2 : Int)) ++ ([n9])) ++ (t.map (fun (c_ : Nat) => (c_ : Int)))) (b := List.replicate n26.toNat 0) rfl rfl).symm) (s28.new np29 (.lst (((((octI n (2 : Int)) ++ ([n9])) ++ (t.map (fun (c_ : Nat) => (c_ : Int)))).map V.int) ++ ((List.replicate n26.toNat 0).map V.int))))
    have s31 : Hs G0 H Z0 [c p29 (.lst ((encE t n).map V.int))] _ _ := (s30.pick [0] (by decide) (by walk_at "finL"))
    exact fin (kq p29 _ _ s31 ) (by rfl)
end
end X
namespace X
open PySem PySem.Spec PyProof.Rows L2 G
section
variable {P : Program} {w : World} {K : PySem.W.Frag} {mg : Str → Option Value} {base : Heap} {A : Ads}
theorem ok_decode_entry (T : Txt K mg A) : FnOk P w K mg base CX0 4 A.a_decode_entry A.d_decode_entry ["octets"] (sp_decode_entry K A) := by
  have G_number_of : FnOk P w K mg base CX0 1 A.a_number_of A.d_number_of ["octets"] (sp_number_of K A) := ok_number_of T
  have G_text_of : FnOk P w K mg base CX0 2 A.a_text_of A.d_text_of ["octets"] (sp_text_of K A) := ok_text_of T
  have G_is_name : FnOk P w K mg base CX0 3 A.a_is_name A.d_is_name ["text"] (sp_is_name K A) := ok_is_name T
  refine T.F_decode_entry.ok sc_decode_entry (fun vs H Q E h => ?_) (fun cdv A' outer s H vs Q E hRm h => ?_)
  · rcases h with h | h
    · obtain ⟨a, ns, rfl, _⟩ := h
      rfl
    · obtain ⟨a, ns, rfl, _⟩ := h
      rfl
  · rcases h with h | h
    · obtain ⟨a, ns, rfl, hl, hbd, hg, G0, Z0, s0, kq⟩ := h
      have hUn := hu_of hRm
      refine ⟨_, (pss_cons (ps_set (i := 1) sc_decode_entry.nd rfl (.inl rfl) (pe_call G_number_of (hRm.mono (by decide)) (by rfl) T.g_number_of T.F_number_of.kp T.b_number_of .nil pass0 (pa_cons (pe_slice sl_list (pv 0) (po_some pe_int) (po_some pe_int)) pa_nil))) (pss_cons (ps_set (i := 2) sc_decode_entry.nd rfl (.inl rfl) (pe_op op_add (pe_glob (v := .int 3) (by rfl) T.k_NAME_START (by exact ⟨_, rfl⟩)) (pe_ix ix_list (pv 0) pe_int (fun _ _ => rfl)))) (pss_cons (ps_if (pw_or (pt_cmpR op_eq (pv 1) pe_int (nomark _)) (pw_or (pt_cmpR op_gt (pe_ix ix_list (pv 0) pe_int (fun _ _ => rfl)) (pe_glob (v := .int 28) (by rfl) T.k_MOST_SIGNS (by exact ⟨_, rfl⟩)) (nomark _)) (pw_or1 (pt_val (pe_callB (cr_anyI rfl) (by rfl) T.z_any (by decide +kernel) (pa_cons (pe_slice sl_list (pv 0) (po_some (pv 2)) po_none) pa_nil)) (fun _ => rfl))))).pt (pss_cons (ps_ret pe_non) pss_nil) pss_nil) (pss_cons (ps_set (i := 3) sc_decode_entry.nd rfl (.inl rfl) (pe_call G_text_of (hRm.mono (by decide)) (by rfl) T.g_text_of T.F_text_of.kp T.b_text_of .nil pass0 (pa_cons (pe_slice sl_list (pv 0) (po_some (pe_glob (v := .int 3) (by rfl) T.k_NAME_START (by exact ⟨_, rfl⟩))) (po_some (pv 2))) pa_nil))) (pss_cons (ps_if (pw_or (pt_cmpR op_isN (pv 3) pe_non (nomark _)) (pw_or1 (pt_not (pt_val (pe_call G_is_name (hRm.mono (by decide)) (by rfl) T.g_is_name T.F_is_name.kp T.b_is_name .nil pass0 (pa_cons (pv 3) pa_nil)) (fun _ => rfl))))).pt (pss_cons (ps_ret pe_non) pss_nil) pss_nil) (pss_cons (ps_ret (pe_tup (pa_cons (pv 3) (pa_cons (pv 1) pa_nil)))) pss_nil)))))), ?_⟩
      refine c_sig [some (V.ref a), none, none, none] rfl ?_
      have h2b := hbd _ (gi_mem (ns := ns) (i := 2) (by omega) (by omega))
      refine c_set ?_
      refine c_callx ?_
      refine c_cons ?_
      refine (vv 0 rfl) _ ((vp1 vc) _ ((vp1 vc) _ (r_slL (SqL.of (s0.mem 0 rfl)) (by show (0 : Int) ≤ 0; walk_at "side") (by show (0 : Int) ≤ (ns.length : Int); walk_at "side") (by show (0 : Int) ≤ 2; walk_at "side") (by show (2 : Int) ≤ (ns.length : Int); walk_at "side") fun p1 np1 => ?_)))
      have s2 : Hs G0 H Z0 [c p1 (.lst ((cutI ns 0 2).map V.int)), c a (.lst (ns.map V.int))] _ _ := s0.new np1 (.lst ((cutI ns 0 2).map V.int))
      refine c_nil ?_
      obtain ⟨G3, g4, k5⟩ := s2.giv [0] [1] rfl
      refine ⟨p1, (cutI ns 0 2), rfl, G3, _, g4, fun H6 Z7 r8 => ?_⟩
      have s9 : Hs G0 H Z0 [c p1 (.lst ((cutI ns 0 2).map V.int)), c a (.lst (ns.map V.int))] _ _ := k5 _ _ _ r8
      obtain ⟨n10, en10⟩ : ∃ n_ : Int, n_ = (valN (cutI ns 0 2)) := ⟨_, rfl⟩
      refine k_setv (.int n10) (congrArg V.int en10.symm) ?_
      refine k_set [some (V.ref a), some (V.int n10), none, none] rfl ?_
      obtain ⟨n11, en11⟩ : ∃ n_ : Int, n_ = (3 + (gi ns 2)) := ⟨_, rfl⟩
      refine s_set [some (V.ref a), some (V.int n10), some (V.int n11), none] (vis (v0 (g := fun i j => .int (i + j)) vc (vixL (vv 0 rfl) vc (xs := (ns.map V.int)) (SqL.of (s9.mem 1 rfl)) (at_gi (by walk_at "side") (by walk_at "side")))) (congrArg V.int en11.symm)) rfl ?_
      refine c_ifS ?_
      refine c_or ?_
      refine (vtest (veq (vv 1 rfl) vc)) _ ?_
      refine c_ite (p := n10 = 0) (fun h13 => ?_) (fun h13 => ?_)
      · -- yes
        refine iteT ?_
        refine s_ret vc ?_
        exfalso; obtain ⟨hg1, hg2, hg3, hg4, hg5⟩ := hg; first | omega | (subst_vars; contradiction) | (subst_vars; exact (by assumption : ¬ NmOk _) hg5) | (simp_all; done)
      · -- no
        refine c_or ?_
        refine (vtest (v0 (g := fun i j => .bl (decide (j < i))) (vixL (vv 0 rfl) vc (xs := (ns.map V.int)) (SqL.of (s9.mem 1 rfl)) (at_gi (by walk_at "side") (by walk_at "side"))) vc)) _ ?_
        refine c_ite (p := (gi ns 2) > 28) (fun h14 => ?_) (fun h14 => ?_)
        · -- yes
          refine iteT ?_
          refine s_ret vc ?_
          exfalso; obtain ⟨hg1, hg2, hg3, hg4, hg5⟩ := hg; first | omega | (subst_vars; contradiction) | (subst_vars; exact (by assumption : ¬ NmOk _) hg5) | (simp_all; done)
        · -- no
          refine c_tB ?_
          refine c_cb ?_
          refine c_cons ?_
          refine (vv 0 rfl) _ ((vp1 (vv 2 rfl)) _ (vp0 _ (r_slL (SqL.of (s9.mem 1 rfl)) (by show (0 : Int) ≤ n11; walk_at "side") (by show (n11 : Int) ≤ (ns.length : Int); walk_at "side") (by show (0 : Int) ≤ (ns.length : Int); walk_at "side") (by show ((ns.length : Int) : Int) ≤ (ns.length : Int); walk_at "side") fun p16 np16 => ?_)))
          have s17 : Hs G0 H Z0 [c p16 (.lst ((cutI ns n11 (ns.length : Int)).map V.int)), c p1 (.lst ((cutI ns 0 2).map V.int)), c a (.lst (ns.map V.int))] _ _ := s9.new np16 (.lst ((cutI ns n11 (ns.length : Int)).map V.int))
          refine c_nil ?_
          refine ⟨_, (cutI ns n11 (ns.length : Int)), rfl, (SqL.of (s17.mem 0 rfl)), ?_⟩
          refine ⟨_, rfl, ?_⟩
          refine c_iteB (fun h15 => ?_) (fun h15 => ?_)
          · -- yes
            refine s_ret vc ?_
            exfalso; obtain ⟨hg1, hg2, hg3, hg4, hg5⟩ := hg; first | omega | (subst_vars; contradiction) | (subst_vars; exact (by assumption : ¬ NmOk _) hg5) | (simp_all; done)
          · -- no
            refine s_nxs ?_
            by_cases hGd : ∀ n ∈ cutI ns 3 n11, GdI n
            · -- case True
              refine c_set ?_
              refine c_callx ?_
              refine c_cons ?_
              refine (vv 0 rfl) _ ((vp1 vc) _ ((vp1 (vv 2 rfl)) _ (r_slL (SqL.of (s17.mem 2 rfl)) (by show (0 : Int) ≤ 3; walk_at "side") (by show (3 : Int) ≤ (ns.length : Int); walk_at "side") (by show (0 : Int) ≤ n11; walk_at "side") (by show (n11 : Int) ≤ (ns.length : Int); walk_at "side") fun p18 np18 => ?_)))
              have s19 : Hs G0 H Z0 [c p18 (.lst ((cutI ns 3 n11).map V.int)), c p16 (.lst ((cutI ns n11 (ns.length : Int)).map V.int)), c p1 (.lst ((cutI ns 0 2).map V.int)), c a (.lst (ns.map V.int))] _ _ := s17.new np18 (.lst ((cutI ns 3 n11).map V.int))
              refine c_nil ?_
              obtain ⟨G20, g21, k22⟩ := s19.giv [0] [1, 2, 3] rfl
              refine .inl ⟨p18, (cutI ns 3 n11), rfl, (by walk_at "side"), (by assumption), G20, _, g21, fun H23 Z24 r25 => ?_⟩
              have s26 : Hs G0 H Z0 [c p18 (.lst ((cutI ns 3 n11).map V.int)), c p16 (.lst ((cutI ns n11 (ns.length : Int)).map V.int)), c p1 (.lst ((cutI ns 0 2).map V.int)), c a (.lst (ns.map V.int))] _ _ := k22 _ _ _ r25
              refine k_set [some (V.ref a), some (V.int n10), some (V.int n11), some (V.str (sO ((cutI ns 3 n11).map Int.toNat)))] rfl ?_
              refine c_ifS ?_
              refine c_or ?_
              refine (vtest (visN (vv 3 rfl))) _ ?_
              refine c_ite (p := V.str (sO ((cutI ns 3 n11).map Int.toNat)) = V.non) (fun h28 => ?_) (fun h28 => ?_)
              · -- yes
                exfalso; first | exact absurd h28 (by decide) | walk_at "dead"
              · -- no
                refine c_not ?_
                refine c_tB ?_
                refine c_callx ?_
                refine c_cons ?_
                refine (vv 3 rfl) _ ?_
                refine c_nil ?_
                obtain ⟨G30, g31, k32⟩ := s26.giv [] [0, 1, 2, 3] rfl
                refine ⟨((cutI ns 3 n11).map Int.toNat), rfl, (by walk_at "side"), G30, _, g31, fun H33 Z34 r35 => ?_⟩
                have s36 : Hs G0 H Z0 [c p18 (.lst ((cutI ns 3 n11).map V.int)), c p16 (.lst ((cutI ns n11 (ns.length : Int)).map V.int)), c p1 (.lst ((cutI ns 0 2).map V.int)), c a (.lst (ns.map V.int))] _ _ := k32 _ _ _ r35
                refine ⟨_, rfl, ?_⟩
                refine c_iten (p := NmOk ((cutI ns 3 n11).map Int.toNat)) (fun h29 => ?_) (fun h29 => ?_)
                · -- no
                  refine s_ret vc ?_
                  exfalso; obtain ⟨hg1, hg2, hg3, hg4, hg5⟩ := hg; first | omega | (subst_vars; contradiction) | (subst_vars; exact (by assumption : ¬ NmOk _) hg5) | (simp_all; done)
                · -- yes
                  refine s_nxs ?_
                  refine c_ret ?_
                  refine c_tup ?_
                  refine c_cons ?_
                  refine (vv 3 rfl) _ ?_
                  refine c_cons ?_
                  refine (vv 1 rfl) _ ?_
                  refine c_nil ?_
                  refine ⟨sz1 (by show 2 ≤ 1000000; decide), fun p37 np37 => ?_⟩
                  have s38 : Hs G0 H Z0 [fz p37 (.tup ([V.str (sO ((cutI ns 3 n11).map Int.toNat)), V.int n10])), c p18 (.lst ((cutI ns 3 n11).map V.int)), c p16 (.lst ((cutI ns n11 (ns.length : Int)).map V.int)), c p1 (.lst ((cutI ns 0 2).map V.int)), c a (.lst (ns.map V.int))] _ _ := s36.newz np37 (.tup ([V.str (sO ((cutI ns 3 n11).map Int.toNat)), V.int n10]))
                  have s39 : Hs G0 H Z0 [fz p37 (.tup ([V.str (sO (nmE ns)), V.int (valN (cutI ns 0 2))])), c a (.lst (ns.map V.int))] _ _ := (s38.pick [0, 4] (by decide) (by walk_at "finL"))
                  exact fin (kq p37 _ _ s39 ) (by rfl)
            · -- case False
              refine c_set ?_
              refine c_callx ?_
              refine c_cons ?_
              refine (vv 0 rfl) _ ((vp1 vc) _ ((vp1 (vv 2 rfl)) _ (r_slL (SqL.of (s17.mem 2 rfl)) (by show (0 : Int) ≤ 3; walk_at "side") (by show (3 : Int) ≤ (ns.length : Int); walk_at "side") (by show (0 : Int) ≤ n11; walk_at "side") (by show (n11 : Int) ≤ (ns.length : Int); walk_at "side") fun p40 np40 => ?_)))
              have s41 : Hs G0 H Z0 [c p40 (.lst ((cutI ns 3 n11).map V.int)), c p16 (.lst ((cutI ns n11 (ns.length : Int)).map V.int)), c p1 (.lst ((cutI ns 0 2).map V.int)), c a (.lst (ns.map V.int))] _ _ := s17.new np40 (.lst ((cutI ns 3 n11).map V.int))
              refine c_nil ?_
              obtain ⟨G42, g43, k44⟩ := s41.giv [0] [1, 2, 3] rfl
              refine .inr ⟨p40, (cutI ns 3 n11), rfl, (by walk_at "side"), (by assumption), G42, _, g43, fun H45 Z46 r47 => ?_⟩
              have s48 : Hs G0 H Z0 [c p40 (.lst ((cutI ns 3 n11).map V.int)), c p16 (.lst ((cutI ns n11 (ns.length : Int)).map V.int)), c p1 (.lst ((cutI ns 0 2).map V.int)), c a (.lst (ns.map V.int))] _ _ := k44 _ _ _ r47
              refine k_set [some (V.ref a), some (V.int n10), some (V.int n11), some (V.non)] rfl ?_
              refine c_ifS ?_
              refine c_or ?_
              refine (vtest (visN (vv 3 rfl))) _ ?_
              refine c_ite (p := V.non = V.non) (fun h50 => ?_) (fun h50 => ?_)
              · -- yes
                refine iteT ?_
                refine s_ret vc ?_
                exfalso; obtain ⟨hg1, hg2, hg3, hg4, hg5⟩ := hg; first | omega | (subst_vars; contradiction) | (subst_vars; exact (by assumption : ¬ NmOk _) hg5) | (simp_all; done)
              · -- no
                exfalso; first | exact absurd h50 (by decide) | walk_at "dead"
    · obtain ⟨a, ns, rfl, hl, hbd, hb, G0, Z0, s0, kq⟩ := h
      have hUn := hu_of hRm
      refine ⟨_, (pss_cons (ps_set (i := 1) sc_decode_entry.nd rfl (.inl rfl) (pe_call G_number_of (hRm.mono (by decide)) (by rfl) T.g_number_of T.F_number_of.kp T.b_number_of .nil pass0 (pa_cons (pe_slice sl_list (pv 0) (po_some pe_int) (po_some pe_int)) pa_nil))) (pss_cons (ps_set (i := 2) sc_decode_entry.nd rfl (.inl rfl) (pe_op op_add (pe_glob (v := .int 3) (by rfl) T.k_NAME_START (by exact ⟨_, rfl⟩)) (pe_ix ix_list (pv 0) pe_int (fun _ _ => rfl)))) (pss_cons (ps_if (pw_or (pt_cmpR op_eq (pv 1) pe_int (nomark _)) (pw_or (pt_cmpR op_gt (pe_ix ix_list (pv 0) pe_int (fun _ _ => rfl)) (pe_glob (v := .int 28) (by rfl) T.k_MOST_SIGNS (by exact ⟨_, rfl⟩)) (nomark _)) (pw_or1 (pt_val (pe_callB (cr_anyI rfl) (by rfl) T.z_any (by decide +kernel) (pa_cons (pe_slice sl_list (pv 0) (po_some (pv 2)) po_none) pa_nil)) (fun _ => rfl))))).pt (pss_cons (ps_ret pe_non) pss_nil) pss_nil) (pss_cons (ps_set (i := 3) sc_decode_entry.nd rfl (.inl rfl) (pe_call G_text_of (hRm.mono (by decide)) (by rfl) T.g_text_of T.F_text_of.kp T.b_text_of .nil pass0 (pa_cons (pe_slice sl_list (pv 0) (po_some (pe_glob (v := .int 3) (by rfl) T.k_NAME_START (by exact ⟨_, rfl⟩))) (po_some (pv 2))) pa_nil))) (pss_cons (ps_if (pw_or (pt_cmpR op_isN (pv 3) pe_non (nomark _)) (pw_or1 (pt_not (pt_val (pe_call G_is_name (hRm.mono (by decide)) (by rfl) T.g_is_name T.F_is_name.kp T.b_is_name .nil pass0 (pa_cons (pv 3) pa_nil)) (fun _ => rfl))))).pt (pss_cons (ps_ret pe_non) pss_nil) pss_nil) (pss_cons (ps_ret (pe_tup (pa_cons (pv 3) (pa_cons (pv 1) pa_nil)))) pss_nil)))))), ?_⟩
      refine c_sig [some (V.ref a), none, none, none] rfl ?_
      have h2b := hbd _ (gi_mem (ns := ns) (i := 2) (by omega) (by omega))
      refine c_set ?_
      refine c_callx ?_
      refine c_cons ?_
      refine (vv 0 rfl) _ ((vp1 vc) _ ((vp1 vc) _ (r_slL (SqL.of (s0.mem 0 rfl)) (by show (0 : Int) ≤ 0; walk_at "side") (by show (0 : Int) ≤ (ns.length : Int); walk_at "side") (by show (0 : Int) ≤ 2; walk_at "side") (by show (2 : Int) ≤ (ns.length : Int); walk_at "side") fun p51 np51 => ?_)))
      have s52 : Hs G0 H Z0 [c p51 (.lst ((cutI ns 0 2).map V.int)), c a (.lst (ns.map V.int))] _ _ := s0.new np51 (.lst ((cutI ns 0 2).map V.int))
      refine c_nil ?_
      obtain ⟨G53, g54, k55⟩ := s52.giv [0] [1] rfl
      refine ⟨p51, (cutI ns 0 2), rfl, G53, _, g54, fun H56 Z57 r58 => ?_⟩
      have s59 : Hs G0 H Z0 [c p51 (.lst ((cutI ns 0 2).map V.int)), c a (.lst (ns.map V.int))] _ _ := k55 _ _ _ r58
      obtain ⟨n60, en60⟩ : ∃ n_ : Int, n_ = (valN (cutI ns 0 2)) := ⟨_, rfl⟩
      refine k_setv (.int n60) (congrArg V.int en60.symm) ?_
      refine k_set [some (V.ref a), some (V.int n60), none, none] rfl ?_
      obtain ⟨n61, en61⟩ : ∃ n_ : Int, n_ = (3 + (gi ns 2)) := ⟨_, rfl⟩
      refine s_set [some (V.ref a), some (V.int n60), some (V.int n61), none] (vis (v0 (g := fun i j => .int (i + j)) vc (vixL (vv 0 rfl) vc (xs := (ns.map V.int)) (SqL.of (s59.mem 1 rfl)) (at_gi (by walk_at "side") (by walk_at "side")))) (congrArg V.int en61.symm)) rfl ?_
      refine c_ifS ?_
      refine c_or ?_
      refine (vtest (veq (vv 1 rfl) vc)) _ ?_
      refine c_ite (p := n60 = 0) (fun h63 => ?_) (fun h63 => ?_)
      · -- yes
        refine iteT ?_
        refine s_ret vc ?_
        have s64 : Hs G0 H Z0 [c a (.lst (ns.map V.int))] _ _ := (s59.pick [1] (by decide) (by walk_at "finL"))
        exact fin (kq  _ _ s64 ) (by rfl)
      · -- no
        refine c_or ?_
        refine (vtest (v0 (g := fun i j => .bl (decide (j < i))) (vixL (vv 0 rfl) vc (xs := (ns.map V.int)) (SqL.of (s59.mem 1 rfl)) (at_gi (by walk_at "side") (by walk_at "side"))) vc)) _ ?_
        refine c_ite (p := (gi ns 2) > 28) (fun h65 => ?_) (fun h65 => ?_)
        · -- yes
          refine iteT ?_
          refine s_ret vc ?_
          have s66 : Hs G0 H Z0 [c a (.lst (ns.map V.int))] _ _ := (s59.pick [1] (by decide) (by walk_at "finL"))
          exact fin (kq  _ _ s66 ) (by rfl)
        · -- no
          refine c_tB ?_
          refine c_cb ?_
          refine c_cons ?_
          refine (vv 0 rfl) _ ((vp1 (vv 2 rfl)) _ (vp0 _ (r_slL (SqL.of (s59.mem 1 rfl)) (by show (0 : Int) ≤ n61; walk_at "side") (by show (n61 : Int) ≤ (ns.length : Int); walk_at "side") (by show (0 : Int) ≤ (ns.length : Int); walk_at "side") (by show ((ns.length : Int) : Int) ≤ (ns.length : Int); walk_at "side") fun p68 np68 => ?_)))
          have s69 : Hs G0 H Z0 [c p68 (.lst ((cutI ns n61 (ns.length : Int)).map V.int)), c p51 (.lst ((cutI ns 0 2).map V.int)), c a (.lst (ns.map V.int))] _ _ := s59.new np68 (.lst ((cutI ns n61 (ns.length : Int)).map V.int))
          refine c_nil ?_
          refine ⟨_, (cutI ns n61 (ns.length : Int)), rfl, (SqL.of (s69.mem 0 rfl)), ?_⟩
          refine ⟨_, rfl, ?_⟩
          refine c_iteB (fun h67 => ?_) (fun h67 => ?_)
          · -- yes
            refine s_ret vc ?_
            have s70 : Hs G0 H Z0 [c a (.lst (ns.map V.int))] _ _ := (s69.pick [2] (by decide) (by walk_at "finL"))
            exact fin (kq  _ _ s70 ) (by rfl)
          · -- no
            refine s_nxs ?_
            by_cases hGd : ∀ n ∈ cutI ns 3 n61, GdI n
            · -- case True
              refine c_set ?_
              refine c_callx ?_
              refine c_cons ?_
              refine (vv 0 rfl) _ ((vp1 vc) _ ((vp1 (vv 2 rfl)) _ (r_slL (SqL.of (s69.mem 2 rfl)) (by show (0 : Int) ≤ 3; walk_at "side") (by show (3 : Int) ≤ (ns.length : Int); walk_at "side") (by show (0 : Int) ≤ n61; walk_at "side") (by show (n61 : Int) ≤ (ns.length : Int); walk_at "side") fun p71 np71 => ?_)))
              have s72 : Hs G0 H Z0 [c p71 (.lst ((cutI ns 3 n61).map V.int)), c p68 (.lst ((cutI ns n61 (ns.length : Int)).map V.int)), c p51 (.lst ((cutI ns 0 2).map V.int)), c a (.lst (ns.map V.int))] _ _ := s69.new np71 (.lst ((cutI ns 3 n61).map V.int))
              refine c_nil ?_
              obtain ⟨G73, g74, k75⟩ := s72.giv [0] [1, 2, 3] rfl
              refine .inl ⟨p71, (cutI ns 3 n61), rfl, (by walk_at "side"), (by assumption), G73, _, g74, fun H76 Z77 r78 => ?_⟩
              have s79 : Hs G0 H Z0 [c p71 (.lst ((cutI ns 3 n61).map V.int)), c p68 (.lst ((cutI ns n61 (ns.length : Int)).map V.int)), c p51 (.lst ((cutI ns 0 2).map V.int)), c a (.lst (ns.map V.int))] _ _ := k75 _ _ _ r78
              refine k_set [some (V.ref a), some (V.int n60), some (V.int n61), some (V.str (sO ((cutI ns 3 n61).map Int.toNat)))] rfl ?_
              refine c_ifS ?_
              refine c_or ?_
              refine (vtest (visN (vv 3 rfl))) _ ?_
              refine c_ite (p := V.str (sO ((cutI ns 3 n61).map Int.toNat)) = V.non) (fun h81 => ?_) (fun h81 => ?_)
              · -- yes
                exfalso; first | exact absurd h81 (by decide) | walk_at "dead"
              · -- no
                refine c_not ?_
                refine c_tB ?_
                refine c_callx ?_
                refine c_cons ?_
                refine (vv 3 rfl) _ ?_
                refine c_nil ?_
                obtain ⟨G83, g84, k85⟩ := s79.giv [] [0, 1, 2, 3] rfl
                refine ⟨((cutI ns 3 n61).map Int.toNat), rfl, (by walk_at "side"), G83, _, g84, fun H86 Z87 r88 => ?_⟩
                have s89 : Hs G0 H Z0 [c p71 (.lst ((cutI ns 3 n61).map V.int)), c p68 (.lst ((cutI ns n61 (ns.length : Int)).map V.int)), c p51 (.lst ((cutI ns 0 2).map V.int)), c a (.lst (ns.map V.int))] _ _ := k85 _ _ _ r88
                refine ⟨_, rfl, ?_⟩
                refine c_iten (p := NmOk ((cutI ns 3 n61).map Int.toNat)) (fun h82 => ?_) (fun h82 => ?_)
                · -- no
                  refine s_ret vc ?_
                  have s90 : Hs G0 H Z0 [c a (.lst (ns.map V.int))] _ _ := (s89.pick [3] (by decide) (by walk_at "finL"))
                  exact fin (kq  _ _ s90 ) (by rfl)
                · -- yes
                  refine s_nxs ?_
                  refine c_ret ?_
                  refine c_tup ?_
                  refine c_cons ?_
                  refine (vv 3 rfl) _ ?_
                  refine c_cons ?_
                  refine (vv 1 rfl) _ ?_
                  refine c_nil ?_
                  refine ⟨sz1 (by show 2 ≤ 1000000; decide), fun p91 np91 => ?_⟩
                  have s92 : Hs G0 H Z0 [fz p91 (.tup ([V.str (sO ((cutI ns 3 n61).map Int.toNat)), V.int n60])), c p71 (.lst ((cutI ns 3 n61).map V.int)), c p68 (.lst ((cutI ns n61 (ns.length : Int)).map V.int)), c p51 (.lst ((cutI ns 0 2).map V.int)), c a (.lst (ns.map V.int))] _ _ := s89.newz np91 (.tup ([V.str (sO ((cutI ns 3 n61).map Int.toNat)), V.int n60]))
                  exfalso; subst_vars; exact hb ⟨by omega, by omega, by simpa using (by assumption : ¬ anyN _ = true), by assumption, by assumption⟩
            · -- case False
              refine c_set ?_
              refine c_callx ?_
              refine c_cons ?_
              refine (vv 0 rfl) _ ((vp1 vc) _ ((vp1 (vv 2 rfl)) _ (r_slL (SqL.of (s69.mem 2 rfl)) (by show (0 : Int) ≤ 3; walk_at "side") (by show (3 : Int) ≤ (ns.length : Int); walk_at "side") (by show (0 : Int) ≤ n61; walk_at "side") (by show (n61 : Int) ≤ (ns.length : Int); walk_at "side") fun p93 np93 => ?_)))
              have s94 : Hs G0 H Z0 [c p93 (.lst ((cutI ns 3 n61).map V.int)), c p68 (.lst ((cutI ns n61 (ns.length : Int)).map V.int)), c p51 (.lst ((cutI ns 0 2).map V.int)), c a (.lst (ns.map V.int))] _ _ := s69.new np93 (.lst ((cutI ns 3 n61).map V.int))
              refine c_nil ?_
              obtain ⟨G95, g96, k97⟩ := s94.giv [0] [1, 2, 3] rfl
              refine .inr ⟨p93, (cutI ns 3 n61), rfl, (by walk_at "side"), (by assumption), G95, _, g96, fun H98 Z99 r100 => ?_⟩
              have s101 : Hs G0 H Z0 [c p93 (.lst ((cutI ns 3 n61).map V.int)), c p68 (.lst ((cutI ns n61 (ns.length : Int)).map V.int)), c p51 (.lst ((cutI ns 0 2).map V.int)), c a (.lst (ns.map V.int))] _ _ := k97 _ _ _ r100
              refine k_set [some (V.ref a), some (V.int n60), some (V.int n61), some (V.non)] rfl ?_
              refine c_ifS ?_
              refine c_or ?_
              refine (vtest (visN (vv 3 rfl))) _ ?_
              refine c_ite (p := V.non = V.non) (fun h103 => ?_) (fun h103 => ?_)
              · -- yes
                refine iteT ?_
                refine s_ret vc ?_
                have s104 : Hs G0 H Z0 [c a (.lst (ns.map V.int))] _ _ := (s101.pick [3] (by decide) (by walk_at "finL"))
                exact fin (kq  _ _ s104 ) (by rfl)
              · -- no
                exfalso; first | exact absurd h103 (by decide) | walk_at "dead"
end
end X
namespace X
open PySem PySem.Spec PyProof.Rows L2 G
section
variable {P : Program} {w : World} {K : PySem.W.Frag} {mg : Str → Option Value} {base : Heap} {A : Ads}
theorem ok__law_row (T : Txt K mg A) : FnOk P w K mg base CX0 1 A.a__law_row A.d__law_row ["_law_script", "_law_k"] (sp__law_row K A) := by
  refine T.F__law_row.ok sc__law_row (fun vs H Q E h => ?_) (fun cdv A' outer s H vs Q E hRm h => ?_)
  · obtain ⟨a, ns, k, rfl, _⟩ := h
    rfl
  · obtain ⟨a, ns, k, rfl, h0, ⟨G0, Z0, s0⟩, kq⟩ := h
    have hUn := hu_of hRm
    refine ⟨_, (pss_cons (ps_set (i := 2) sc__law_row.nd rfl (.inl rfl) (pv 1)) (pss_cons (ps_if (pt_cmpR op_gt (pe_callB call_len_seq (by rfl) T.z_len PySem.boot_len (pa_cons (pv 0) pa_nil)) pe_int (nomark _)) (pss_cons (ps_set (i := 2) sc__law_row.nd rfl (.inl rfl) (pe_callTy call_int1 (by rfl) T.z_int (by decide +kernel) (pa_cons (pe_ix ix_list (pv 0) (pe_op op_mod (pv 1) (pe_callB call_len_seq (by rfl) T.z_len PySem.boot_len (pa_cons (pv 0) pa_nil))) (fun _ _ => rfl)) pa_nil))) pss_nil) pss_nil) (pss_cons (ps_if (pt_cmpR op_lt (pv 2) pe_int (nomark _)) (pss_cons (ps_set (i := 2) sc__law_row.nd rfl (.inl rfl) (pe_op op_sub (pe_op op_mul (pe_un un_neg pe_int) (pv 2)) pe_int)) pss_nil) pss_nil) (pss_cons (ps_if (pw_and (pt_cmpR op_lt (pv 1) (pe_callB call_len_seq (by rfl) T.z_len PySem.boot_len (pa_cons (pv 0) pa_nil)) (nomark _)) (pw_and1 (pt_cmpR op_ge (pv 2) (pe_op op_pow pe_int pe_int) (nomark _)))).pt (pss_cons (ps_ret (pv 2)) pss_nil) pss_nil) (pss_cons (ps_set (i := 3) sc__law_row.nd rfl (.inl rfl) (pe_op op_mod (pe_callTy call_int1 (by rfl) T.z_int (by decide +kernel) (pa_cons (pe_op op_add (pe_op op_add (pe_op op_mul (pv 2) pe_int) (pe_op op_mul (pv 1) pe_int)) pe_int) pa_nil)) pe_int)) (pss_cons (ps_set (i := 4) sc__law_row.nd rfl (.inl rfl) (pe_op op_mod (pe_callTy call_int1 (by rfl) T.z_int (by decide +kernel) (pa_cons (pe_op op_add (pe_op op_add (pe_op op_add (pe_op op_mul (pv 3) pe_int) (pv 2)) (pe_op op_mul (pv 1) pe_int)) pe_int) pa_nil)) pe_int)) (pss_cons (ps_set (i := 3) sc__law_row.nd rfl (.inl rfl) (pe_op op_mod (pe_callTy call_int1 (by rfl) T.z_int (by decide +kernel) (pa_cons (pe_op op_add (pe_op op_add (pe_op op_mul (pv 3) pe_int) (pe_op op_mul (pv 4) pe_int)) (pv 1)) pa_nil)) pe_int)) (pss_cons (ps_ret (pe_op op_add (pe_op op_mul (pv 4) pe_int) (pv 3))) pss_nil)))))))), ?_⟩
    refine c_sig [some (V.ref a), some (V.int k), none, none, none] rfl ?_
    refine s_set [some (V.ref a), some (V.int k), some (V.int k), none, none] (vv 1 rfl) rfl ?_
    obtain ⟨n2, en2⟩ : ∃ n_ : Int, n_ = (if (ns.length : Int) > 0 then gi ns (k % (ns.length : Int)) else k) := ⟨_, rfl⟩
    refine s_ifset [some (V.ref a), some (V.int k), some (V.int n2), none, none] (.int n2) (vtest (v0 (g := fun i j => .bl (decide (j < i))) (vis (vlenL (vv 0 rfl) (xs := ns.map V.int) (s0.sql 0 rfl)) (congrArg (fun n : Nat => V.int (n : Int)) (List.length_map ..))) vc)) (fun h1 => vis (vint (vixL (vv 0 rfl) (v1 (C := fun _ j => 0 < j) (g := fun i j => .int (i % j)) (i := k) (j := (ns.length : Int)) (by walk_at "side") (vv 1 rfl) (vis (vlenL (vv 0 rfl) (xs := ns.map V.int) (s0.sql 0 rfl)) (congrArg (fun n : Nat => V.int (n : Int)) (List.length_map ..)))) (xs := (ns.map V.int)) (s0.sql 0 rfl) (at_gi (by walk_at "side") (by walk_at "side")))) (congrArg V.int (by rw [en2, if_pos h1]))) rfl (fun h1 => by rw [en2, if_neg h1]) ?_
    obtain ⟨n4, en4⟩ : ∃ n_ : Int, n_ = (if n2 < 0 then ((-2) * n2) - 1 else n2) := ⟨_, rfl⟩
    refine s_ifset [some (V.ref a), some (V.int k), some (V.int n4), none, none] (.int n4) (vtest (v0 (g := fun i j => .bl (decide (i < j))) (vv 2 rfl) vc)) (fun h3 => vis (v0 (g := fun i j => .int (i - j)) (v1 (C := CMul) (g := fun i j => .int (i * j)) (i := (-2)) (j := n2) (.inl (by walk_at "cmul")) (vun (g := fun i => .int (-i)) vc) (vv 2 rfl)) vc) (congrArg V.int (by rw [en4, if_pos h3]))) rfl (fun h3 => by rw [en4, if_neg h3]) ?_
    refine s_if (p := (k < (ns.length : Int)) ∧ (n4 ≥ 1000000000)) (aand (vtest (v0 (g := fun i j => .bl (decide (i < j))) (vv 1 rfl) (vis (vlenL (vv 0 rfl) (xs := ns.map V.int) (s0.sql 0 rfl)) (congrArg (fun n : Nat => V.int (n : Int)) (List.length_map ..))))) (fun hc => (vtest (v0 (g := fun i j => .bl (decide (j ≤ i))) (vv 2 rfl) (vis (v1 (C := CPow) (g := fun i j => .int (i ^ j.toNat)) ⟨by decide, by decide, by decide⟩ vc vc) (w := .int 1000000000) (by rfl)))))) (fun h5 => ?_) (fun h5 => ?_)
    · -- then line 61
      refine s_ret (vv 2 rfl) ?_
      exact fin kq (by (subst_vars; first | exact congrArg V.int (if_pos (by assumption)).symm | exact congrArg V.int (if_neg (by assumption)).symm))
    · -- else line 61
      refine s_nxs ?_
      obtain ⟨n6, en6⟩ : ∃ n_ : Int, n_ = ((((n4 * 48271) + (k * 69621)) + 11) % 2147483647) := ⟨_, rfl⟩
      have en60 : 0 ≤ n6 := by rw [en6]; exact Int.emod_nonneg _ (by walk_at "side")
      have en61 : n6 < 2147483647 := by rw [en6]; exact Int.emod_lt_of_pos _ (by walk_at "side")
      refine s_set [some (V.ref a), some (V.int k), some (V.int n4), some (V.int n6), none] (vis (v1 (C := fun _ j => 0 < j) (g := fun i j => .int (i % j)) (i := ((n4 * 48271) + (k * 69621)) + 11) (j := 2147483647) (by walk_at "side") (vint (v0 (g := fun i j => .int (i + j)) (v0 (g := fun i j => .int (i + j)) (v1 (C := CMul) (g := fun i j => .int (i * j)) (i := n4) (j := 48271) (.inr (by walk_at "cmul")) (vv 2 rfl) vc) (v1 (C := CMul) (g := fun i j => .int (i * j)) (i := k) (j := 69621) (.inr (by walk_at "cmul")) (vv 1 rfl) vc)) vc)) vc) (congrArg V.int en6.symm)) rfl ?_
      obtain ⟨n7, en7⟩ : ∃ n_ : Int, n_ = (((((n6 * 40692) + n4) + (k * 16807)) + 5) % 2147483399) := ⟨_, rfl⟩
      have en70 : 0 ≤ n7 := by rw [en7]; exact Int.emod_nonneg _ (by walk_at "side")
      have en71 : n7 < 2147483399 := by rw [en7]; exact Int.emod_lt_of_pos _ (by walk_at "side")
      refine s_set [some (V.ref a), some (V.int k), some (V.int n4), some (V.int n6), some (V.int n7)] (vis (v1 (C := fun _ j => 0 < j) (g := fun i j => .int (i % j)) (i := (((n6 * 40692) + n4) + (k * 16807)) + 5) (j := 2147483399) (by walk_at "side") (vint (v0 (g := fun i j => .int (i + j)) (v0 (g := fun i j => .int (i + j)) (v0 (g := fun i j => .int (i + j)) (v1 (C := CMul) (g := fun i j => .int (i * j)) (i := n6) (j := 40692) (.inr (by walk_at "cmul")) (vv 3 rfl) vc) (vv 2 rfl)) (v1 (C := CMul) (g := fun i j => .int (i * j)) (i := k) (j := 16807) (.inr (by walk_at "cmul")) (vv 1 rfl) vc)) vc)) vc) (congrArg V.int en7.symm)) rfl ?_
      obtain ⟨n8, en8⟩ : ∃ n_ : Int, n_ = ((((n6 * 69621) + (n7 * 7)) + k) % 2147483647) := ⟨_, rfl⟩
      have en80 : 0 ≤ n8 := by rw [en8]; exact Int.emod_nonneg _ (by walk_at "side")
      have en81 : n8 < 2147483647 := by rw [en8]; exact Int.emod_lt_of_pos _ (by walk_at "side")
      refine s_set [some (V.ref a), some (V.int k), some (V.int n4), some (V.int n8), some (V.int n7)] (vis (v1 (C := fun _ j => 0 < j) (g := fun i j => .int (i % j)) (i := ((n6 * 69621) + (n7 * 7)) + k) (j := 2147483647) (by walk_at "side") (vint (v0 (g := fun i j => .int (i + j)) (v0 (g := fun i j => .int (i + j)) (v1 (C := CMul) (g := fun i j => .int (i * j)) (i := n6) (j := 69621) (.inr (by walk_at "cmul")) (vv 3 rfl) vc) (v1 (C := CMul) (g := fun i j => .int (i * j)) (i := n7) (j := 7) (.inr (by walk_at "cmul")) (vv 4 rfl) vc)) (vv 1 rfl))) vc) (congrArg V.int en8.symm)) rfl ?_
      refine s_ret (v0 (g := fun i j => .int (i + j)) (v1 (C := CMul) (g := fun i j => .int (i * j)) (i := n7) (j := 2147483647) (.inr (by walk_at "cmul")) (vv 4 rfl) vc) (vv 3 rfl)) ?_
      exact fin kq (by (subst_vars; first | exact congrArg V.int (if_pos (by assumption)).symm | exact congrArg V.int (if_neg (by assumption)).symm))
end
end X
namespace X
open PySem PySem.Spec PyProof.Rows L2 G
section
variable {P : Program} {w : World} {K : PySem.W.Frag} {mg : Str → Option Value} {base : Heap} {A : Ads}
theorem ok__law_is_integer (T : Txt K mg A) : FnOk P w K mg base CX0 1 A.a__law_is_integer A.d__law_is_integer ["_law_actual"] (sp__law_is_integer K A) := by
  refine T.F__law_is_integer.ok sc__law_is_integer (fun vs H Q E h => ?_) (fun cdv A' outer s H vs Q E hRm h => ?_)
  · obtain ⟨n, rfl, _⟩ := h
    rfl
  · obtain ⟨n, rfl, kq⟩ := h
    have hUn := hu_of hRm
    have s0 : Hs (fun _ => False) H (fun _ => none) [] H (fun _ => none) := Hs.start0
    refine ⟨_, (pss_cons (ps_ret (pe_and (pe_callB call_isi (by rfl) T.z_isinstance (by decide +kernel) (pa_cons (pv 0) (pa_cons (pe_bltn (v := .ty "int") (u := .type "int") (by rfl) T.z_int (by decide +kernel) rfl) pa_nil))) (pe_one (pe_not (pe_callB call_isi (by rfl) T.z_isinstance (by decide +kernel) (pa_cons (pv 0) (pa_cons (pe_bltn (v := .ty "bool") (u := .type "bool") (by rfl) T.z_bool (by decide +kernel) rfl) pa_nil))))))) pss_nil), ?_⟩
    refine c_sig [some (V.int n)] rfl ?_
    refine s_ret (vand (vbool (visi (b := true) (tu := .type "int") (vv 0 rfl) vc (ClsV.ty "int") (.base (.int _)) (kit_ty (by decide +kernel)))) (fun hc => (vnot (vbool (visi (b := false) (tu := .type "int") (vv 0 rfl) vc (ClsV.ty "bool") (.base (.int _)) (kit_ty (by decide +kernel))))))) ?_
    exact fin kq (by rfl)
end
end X
namespace X
open PySem PySem.Spec PyProof.Rows L2 G
section
variable {P : Program} {w : World} {K : PySem.W.Frag} {mg : Str → Option Value} {base : Heap} {A : Ads}
theorem ok__law_char (T : Txt K mg A) : FnOk P w K mg base CX0 1 A.a__law_char A.d__law_char ["_law_number"] (sp__law_char K A) := by
  refine T.F__law_char.ok sc__law_char (fun vs H Q E h => ?_) (fun cdv A' outer s H vs Q E hRm h => ?_)
  · obtain ⟨n, rfl, _⟩ := h
    rfl
  · obtain ⟨n, rfl, kq⟩ := h
    have hUn := hu_of hRm
    have s0 : Hs (fun _ => False) H (fun _ => none) [] H (fun _ => none) := Hs.start0
    refine ⟨_, (pss_cons (ps_set (i := 1) sc__law_char.nd rfl (.inl rfl) pe_str) (pss_cons (ps_set (i := 1) sc__law_char.nd rfl (.inl rfl) (pe_op op_add_str (pv 1) pe_str)) (pss_cons (ps_ret (pe_ix ix_str (pv 1) (pe_op op_mod (pe_callTy call_int1 (by rfl) T.z_int (by decide +kernel) (pa_cons (pv 0) pa_nil)) pe_int) (fun _ _ => rfl))) pss_nil))), ?_⟩
    refine c_sig [some (V.int n), none] rfl ?_
    refine s_set [some (V.int n), some (V.str (sO ([32, 33, 34, 35, 36, 38, 39, 40, 41, 42, 43, 44, 45, 46, 47, 48, 49, 50, 51, 52, 53, 54, 55, 56, 57, 58, 59, 60, 61, 62, 63, 64, 65, 66, 67, 68, 69, 70, 71, 72, 73, 74, 75, 76, 77, 78, 79, 80, 81, 82, 83, 84, 85, 86, 87, 88, 89, 90, 91, 92, 93, 94, 95, 96])))] (vis vc (w := .str (sO ([32, 33, 34, 35, 36, 38, 39, 40, 41, 42, 43, 44, 45, 46, 47, 48, 49, 50, 51, 52, 53, 54, 55, 56, 57, 58, 59, 60, 61, 62, 63, 64, 65, 66, 67, 68, 69, 70, 71, 72, 73, 74, 75, 76, 77, 78, 79, 80, 81, 82, 83, 84, 85, 86, 87, 88, 89, 90, 91, 92, 93, 94, 95, 96]))) (congrArg V.str (by decide +kernel))) rfl ?_
    refine s_set [some (V.int n), some (V.str (sO ([32, 33, 34, 35, 36, 38, 39, 40, 41, 42, 43, 44, 45, 46, 47, 48, 49, 50, 51, 52, 53, 54, 55, 56, 57, 58, 59, 60, 61, 62, 63, 64, 65, 66, 67, 68, 69, 70, 71, 72, 73, 74, 75, 76, 77, 78, 79, 80, 81, 82, 83, 84, 85, 86, 87, 88, 89, 90, 91, 92, 93, 94, 95, 96, 97, 98, 99, 100, 101, 102, 103, 104, 105, 106, 107, 108, 109, 110, 111, 112, 113, 114, 115, 116, 117, 118, 119, 120, 121, 122, 123, 124, 125, 126])))] (vis (vcat (a := ([32, 33, 34, 35, 36, 38, 39, 40, 41, 42, 43, 44, 45, 46, 47, 48, 49, 50, 51, 52, 53, 54, 55, 56, 57, 58, 59, 60, 61, 62, 63, 64, 65, 66, 67, 68, 69, 70, 71, 72, 73, 74, 75, 76, 77, 78, 79, 80, 81, 82, 83, 84, 85, 86, 87, 88, 89, 90, 91, 92, 93, 94, 95, 96])) (b := ([97, 98, 99, 100, 101, 102, 103, 104, 105, 106, 107, 108, 109, 110, 111, 112, 113, 114, 115, 116, 117, 118, 119, 120, 121, 122, 123, 124, 125, 126])) (by walk_at "side") (vv 1 rfl) (vis vc (w := .str (sO ([97, 98, 99, 100, 101, 102, 103, 104, 105, 106, 107, 108, 109, 110, 111, 112, 113, 114, 115, 116, 117, 118, 119, 120, 121, 122, 123, 124, 125, 126]))) (congrArg V.str (by decide +kernel)))) (w := .str (sO ([32, 33, 34, 35, 36, 38, 39, 40, 41, 42, 43, 44, 45, 46, 47, 48, 49, 50, 51, 52, 53, 54, 55, 56, 57, 58, 59, 60, 61, 62, 63, 64, 65, 66, 67, 68, 69, 70, 71, 72, 73, 74, 75, 76, 77, 78, 79, 80, 81, 82, 83, 84, 85, 86, 87, 88, 89, 90, 91, 92, 93, 94, 95, 96, 97, 98, 99, 100, 101, 102, 103, 104, 105, 106, 107, 108, 109, 110, 111, 112, 113, 114, 115, 116, 117, 118, 119, 120, 121, 122, 123, 124, 125, 126]))) (by rfl)) rfl ?_
    refine s_ret (vixS (a := ([32, 33, 34, 35, 36, 38, 39, 40, 41, 42, 43, 44, 45, 46, 47, 48, 49, 50, 51, 52, 53, 54, 55, 56, 57, 58, 59, 60, 61, 62, 63, 64, 65, 66, 67, 68, 69, 70, 71, 72, 73, 74, 75, 76, 77, 78, 79, 80, 81, 82, 83, 84, 85, 86, 87, 88, 89, 90, 91, 92, 93, 94, 95, 96, 97, 98, 99, 100, 101, 102, 103, 104, 105, 106, 107, 108, 109, 110, 111, 112, 113, 114, 115, 116, 117, 118, 119, 120, 121, 122, 123, 124, 125, 126])) (by walk_at "side") (at_gn (by walk_at "side") (by walk_at "side")) (vv 1 rfl) (v1 (C := fun _ j => 0 < j) (g := fun i j => .int (i % j)) (i := n) (j := 94) (by walk_at "side") (vint (vv 0 rfl)) vc)) ?_
    exact fin kq (by rfl)
end
end X
namespace X
open PySem PySem.Spec PyProof.Rows L2 G
section
variable {P : Program} {w : World} {K : PySem.W.Frag} {mg : Str → Option Value} {base : Heap} {A : Ads}
theorem ok__law_text (T : Txt K mg A) : FnOk P w K mg base CX0 2 A.a__law_text A.d__law_text ["_law_number", "_law_count"] (sp__law_text K A) := by
  have G__law_char : FnOk P w K mg base CX0 1 A.a__law_char A.d__law_char ["_law_number"] (sp__law_char K A) := ok__law_char T
  refine T.F__law_text.ok sc__law_text (fun vs H Q E h => ?_) (fun cdv A' outer s H vs Q E hRm h => ?_)
  · obtain ⟨n, m, rfl, _⟩ := h
    rfl
  · obtain ⟨n, m, rfl, h0, h1, G0, Z0, s0, kq⟩ := h
    have hUn := hu_of hRm
    refine ⟨_, (pss_cons (ps_set (i := 2) sc__law_text.nd rfl (.inl rfl) pe_str) (pss_cons (ps_set (i := 0) sc__law_text.nd rfl (.inl rfl) (pe_callTy call_int1 (by rfl) T.z_int (by decide +kernel) (pa_cons (pv 0) pa_nil))) (pss_cons (ps_for PassesOwn.never rfl (pi_range1 rfl T.z_range (pa_cons (pv 1) pa_nil)) (pg_name (i := 3) sc__law_text.nd rfl (.inl rfl)) (pss_cons (ps_set (i := 2) sc__law_text.nd rfl (.inl rfl) (pe_op op_add_str (pv 2) (pe_call G__law_char (hRm.mono (by decide)) (by rfl) T.g__law_char T.F__law_char.kp T.b__law_char .nil pass0 (pa_cons (pe_op op_fdiv (pv 0) pe_int) pa_nil)))) (pss_cons (ps_if (pt_cmpR op_lt (pe_op op_mod (pv 3) pe_int) pe_int (nomark _)) (pss_cons (ps_set (i := 0) sc__law_text.nd rfl (.inl rfl) (pe_op op_fdiv (pv 0) pe_int)) pss_nil) (pss_cons (ps_set (i := 0) sc__law_text.nd rfl (.inl rfl) (pe_op op_add (pe_op op_mul (pv 0) pe_int) (pv 3))) pss_nil)) pss_nil))) (pss_cons (ps_ret (pv 2)) pss_nil)))), ?_⟩
    refine c_sig [some (V.int n), some (V.int m), none, none] rfl ?_
    refine s_set [some (V.int n), some (V.int m), some (V.str (sO ([] : List Nat))), none] (vis vc (w := .str (sO ([] : List Nat))) (congrArg V.str (by decide +kernel))) rfl ?_
    refine s_set [some (V.int n), some (V.int m), some (V.str (sO ([] : List Nat))), none] (vint (vv 0 rfl)) rfl ?_
    refine s_forR1 (va (vv 1 rfl) va0) ⟨by walk_at "side", by walk_at "side"⟩ (fun i1 σ' H' => ∃ (Z' : Hp) (y__law_k : Option V) (t : List Nat) (q : Int), σ' = [some (V.int q), some (V.int m), some (V.str (sO t)), y__law_k] ∧ Hs G0 H Z0 [] H' Z' ∧ (t.length = i1) ∧ (∀ c ∈ t, Gd c)) ?_ ?_ ?_
    · -- start
      refine ⟨_, _, ([] : List Nat), n, rfl, s0.pick [] (by decide) (by walk_at "finL"), ?_, ?_⟩
      · rfl
      · intro c hc; cases hc
    · intro i1 σ' H' h2 hP; obtain ⟨Z', y__law_k, t, q, rfl, sI, hI0, hI1⟩ := hP
      refine c_sig [some (V.int q), some (V.int m), some (V.str (sO t)), some (V.int (i1 : Int))] rfl ?_
      refine s_set [some (V.int q), some (V.int m), some (V.str (sO (t ++ ([chF (q / 3)])))), some (V.int (i1 : Int))] (vcat (a := t) (b := ([chF (q / 3)])) (by walk_at "side") (vv 2 rfl) (vcall (va (v1 (C := CDiv) (g := fun i j => .int (i / j)) (i := q) (j := 3) ⟨by walk_at "side", by walk_at "side"⟩ (vv 0 rfl) vc) va0) (fun _ kC => ⟨(q / 3), rfl, kC⟩))) rfl ?_
      refine s_if (p := ((i1 : Int) % 5) < 4) (vtest (v0 (g := fun i j => .bl (decide (i < j))) (v1 (C := fun _ j => 0 < j) (g := fun i j => .int (i % j)) (i := (i1 : Int)) (j := 5) (by walk_at "side") (vv 3 rfl) vc) vc)) (fun h4 => ?_) (fun h4 => ?_)
      · -- then line 78
        obtain ⟨n5, en5⟩ : ∃ n_ : Int, n_ = (q / 94) := ⟨_, rfl⟩
        refine s_set [some (V.int n5), some (V.int m), some (V.str (sO (t ++ ([chF (q / 3)])))), some (V.int (i1 : Int))] (vis (v1 (C := CDiv) (g := fun i j => .int (i / j)) (i := q) (j := 94) ⟨by walk_at "side", by walk_at "side"⟩ (vv 0 rfl) vc) (congrArg V.int en5.symm)) rfl ?_
        refine s_nxs ?_
        refine s_nx ?_
        refine ⟨_, _, t ++ ([chF (q / 3)]), n5, rfl, sI.pick [] (by decide) (by walk_at "finL"), ?_, ?_⟩
        · rw [List.length_append]; simp only [List.length_cons, List.length_nil]; omega
        · exact gd_app (by assumption) (chF_gd _)
      · -- else line 78
        obtain ⟨n6, en6⟩ : ∃ n_ : Int, n_ = ((q * 48271) + (i1 : Int)) := ⟨_, rfl⟩
        refine s_set [some (V.int n6), some (V.int m), some (V.str (sO (t ++ ([chF (q / 3)])))), some (V.int (i1 : Int))] (vis (v0 (g := fun i j => .int (i + j)) (v1 (C := CMul) (g := fun i j => .int (i * j)) (i := q) (j := 48271) (.inr (by walk_at "cmul")) (vv 0 rfl) vc) (vv 3 rfl)) (congrArg V.int en6.symm)) rfl ?_
        refine s_nxs ?_
        refine s_nx ?_
        refine ⟨_, _, t ++ ([chF (q / 3)]), n6, rfl, sI.pick [] (by decide) (by walk_at "finL"), ?_, ?_⟩
        · rw [List.length_append]; simp only [List.length_cons, List.length_nil]; omega
        · exact gd_app (by assumption) (chF_gd _)
    · intro σ' H' hP; obtain ⟨Z', y__law_k, t, q, rfl, sI, hI0, hI1⟩ := hP
      refine s_ret (vv 2 rfl) ?_
      have s7 : Hs G0 H Z0 [] _ _ := (sI.pick [] (by decide) (by walk_at "finL"))
      exact fin (kq t _ _ s7 (by first | rfl | omega | assumption) (by first | rfl | omega | assumption)) (by first | rfl | omega | assumption)
end
end X
namespace X
open PySem PySem.Spec PyProof.Rows L2 G
section
variable {P : Program} {w : World} {K : PySem.W.Frag} {mg : Str → Option Value} {base : Heap} {A : Ads}
theorem ok__law_name (T : Txt K mg A) : FnOk P w K mg base CX0 3 A.a__law_name A.d__law_name ["_law_number"] (sp__law_name K A) := by
  have G__law_text : FnOk P w K mg base CX0 2 A.a__law_text A.d__law_text ["_law_number", "_law_count"] (sp__law_text K A) := ok__law_text T
  refine T.F__law_name.ok sc__law_name (fun vs H Q E h => ?_) (fun cdv A' outer s H vs Q E hRm h => ?_)
  · obtain ⟨n, rfl, _⟩ := h
    rfl
  · obtain ⟨n, rfl, h0, G0, Z0, s0, kq⟩ := h
    have hUn := hu_of hRm
    refine ⟨_, (pss_cons (ps_set (i := 1) sc__law_name.nd rfl (.inl rfl) pe_str) (pss_cons (ps_for PassesOwn.never rfl (pi_str (pe_call G__law_text (hRm.mono (by decide)) (by rfl) T.g__law_text T.F__law_text.kp T.b__law_text .nil pass0 (pa_cons (pe_op op_fdiv (pe_callTy call_int1 (by rfl) T.z_int (by decide +kernel) (pa_cons (pv 0) pa_nil)) pe_int) (pa_cons (pe_op op_add pe_int (pe_op op_mod (pe_callTy call_int1 (by rfl) T.z_int (by decide +kernel) (pa_cons (pv 0) pa_nil)) pe_int)) pa_nil)))) (pg_name (i := 2) sc__law_name.nd rfl (.inl rfl)) (pss_cons (ps_if (pt_cmpR op_eq (pv 2) pe_str (nomark _)) (pss_cons (ps_set (i := 2) sc__law_name.nd rfl (.inl rfl) pe_str) pss_nil) pss_nil) (pss_cons (ps_set (i := 1) sc__law_name.nd rfl (.inl rfl) (pe_op op_add_str (pv 1) (pv 2))) pss_nil))) (pss_cons (ps_if (pt_cmpR op_eq (pe_op op_mod (pe_callTy call_int1 (by rfl) T.z_int (by decide +kernel) (pa_cons (pv 0) pa_nil)) pe_int) pe_int (nomark _)) (pss_cons (ps_set (i := 1) sc__law_name.nd rfl (.inl rfl) (pe_ix ix_list (pe_lst (pa_cons pe_str (pa_cons pe_str (pa_cons pe_str (pa_cons pe_str (pa_cons pe_str (pa_cons pe_str (pa_cons pe_str pa_nil)))))))) (pe_op op_mod (pe_op op_fdiv (pe_callTy call_int1 (by rfl) T.z_int (by decide +kernel) (pa_cons (pv 0) pa_nil)) pe_int) pe_int) (fun _ _ => rfl))) pss_nil) pss_nil) (pss_cons (ps_if (pw_or (pt_cmpR op_eq (pv 1) pe_str (nomark _)) (pw_or1 (pt_cmpR op_eq (pv 1) pe_str (nomark _)))).pt (pss_cons (ps_set (i := 1) sc__law_name.nd rfl (.inl rfl) (pe_op op_add_str (pv 1) pe_str)) pss_nil) pss_nil) (pss_cons (ps_ret (pv 1)) pss_nil))))), ?_⟩
    refine c_sig [some (V.int n), none, none] rfl ?_
    refine s_set [some (V.int n), some (V.str (sO ([] : List Nat))), none] (vis vc (w := .str (sO ([] : List Nat))) (congrArg V.str (by decide +kernel))) rfl ?_
    refine c_forZ ?_
    refine c_callx ?_
    refine c_cons ?_
    obtain ⟨n1, en1⟩ : ∃ n_ : Int, n_ = (n / 29) := ⟨_, rfl⟩
    refine (vis (v1 (C := CDiv) (g := fun i j => .int (i / j)) (i := n) (j := 29) ⟨by walk_at "side", by walk_at "side"⟩ (vint (vv 0 rfl)) vc) (congrArg V.int en1.symm)) _ ?_
    refine c_cons ?_
    obtain ⟨n2, en2⟩ : ∃ n_ : Int, n_ = (1 + (n % 28)) := ⟨_, rfl⟩
    refine (vis (v0 (g := fun i j => .int (i + j)) vc (v1 (C := fun _ j => 0 < j) (g := fun i j => .int (i % j)) (i := n) (j := 28) (by walk_at "side") (vint (vv 0 rfl)) vc)) (congrArg V.int en2.symm)) _ ?_
    refine c_nil ?_
    obtain ⟨G4, g5, k6⟩ := s0.giv [] [] rfl
    refine ⟨n1, n2, rfl, (by walk_at "side"), (by walk_at "side"), G4, _, g5, fun t_3 H7 Z8 r9 f10 f11 => ?_⟩
    have s12 : Hs G0 H Z0 [] _ _ := k6 _ _ _ r9
    refine k_forZ ?_
    refine s_forS (a := t_3) vc (fun i13 σ' H' => ∃ (Z' : Hp) (y__law_char_here : Option V) (t : List Nat), σ' = [some (V.int n), some (V.str (sO t)), y__law_char_here] ∧ Hs G0 H Z0 [] H' Z' ∧ (t.length = i13) ∧ (∀ c ∈ t, Gd c) ∧ (¬ 47 ∈ t)) ?_ ?_ ?_
    · -- start
      refine ⟨_, _, ([] : List Nat), rfl, s12.pick [] (by decide) (by walk_at "finL"), ?_, ?_, ?_⟩
      · rfl
      · intro c hc; cases hc
      · intro hc; cases hc
    · intro i13 x15 σ' H' h14 hP; obtain ⟨Z', y__law_char_here, t, rfl, sI, hI0, hI1, hI2⟩ := hP
      have hat := at_lt h14
      refine c_sig [some (V.int n), some (V.str (sO t)), some (V.str (sO ([x15])))] rfl ?_
      refine s_if (p := ([x15]) = ([47])) (vtest (veqS (a := ([x15])) (b := ([47])) (vv 2 rfl) (vis vc (w := .str (sO ([47]))) (congrArg V.str (by decide +kernel))))) (fun h16 => ?_) (fun h16 => ?_)
      · -- then line 86
        refine s_set [some (V.int n), some (V.str (sO t)), some (V.str (sO ([95])))] (vis vc (w := .str (sO ([95]))) (congrArg V.str (by decide +kernel))) rfl ?_
        refine s_nxs ?_
        refine s_set [some (V.int n), some (V.str (sO (t ++ ([95])))), some (V.str (sO ([95])))] (vcat (a := t) (b := ([95])) (by walk_at "side") (vv 1 rfl) (vv 2 rfl)) rfl ?_
        refine s_nx ?_
        refine ⟨_, _, t ++ ([95]), rfl, sI.pick [] (by decide) (by walk_at "finL"), ?_, ?_, ?_⟩
        · rw [List.length_append]; simp only [List.length_cons, List.length_nil]; omega
        · first | exact gd_app hI1 (by decide) | exact gd_app hI1 (f11 _ (List.mem_of_getElem? h14))
        · first | exact no_app hI2 (by decide) | exact no_app hI2 (fun z => (by assumption : ¬ [_] = ([47] : List Nat)) (by rw [z]))
      · -- else line 86
        refine s_nxs ?_
        refine s_set [some (V.int n), some (V.str (sO (t ++ ([x15])))), some (V.str (sO ([x15])))] (vcat (a := t) (b := ([x15])) (by walk_at "side") (vv 1 rfl) (vv 2 rfl)) rfl ?_
        refine s_nx ?_
        refine ⟨_, _, t ++ ([x15]), rfl, sI.pick [] (by decide) (by walk_at "finL"), ?_, ?_, ?_⟩
        · rw [List.length_append]; simp only [List.length_cons, List.length_nil]; omega
        · first | exact gd_app hI1 (by decide) | exact gd_app hI1 (f11 _ (List.mem_of_getElem? h14))
        · first | exact no_app hI2 (by decide) | exact no_app hI2 (fun z => (by assumption : ¬ [_] = ([47] : List Nat)) (by rw [z]))
    · intro σ' H' hP; obtain ⟨Z', y__law_char_here, t, rfl, sI, hI0, hI1, hI2⟩ := hP
      refine s_if (p := (n % 7) = 3) (vtest (veq (v1 (C := fun _ j => 0 < j) (g := fun i j => .int (i % j)) (i := n) (j := 7) (by walk_at "side") (vint (vv 0 rfl)) vc) vc)) (fun h17 => ?_) (fun h17 => ?_)
      · -- then line 89
        refine c_set ?_
        refine c_op ?_
        refine c_lst ?_
        refine c_cons ?_
        refine (vis vc (w := .str (sO ([46, 97]))) (congrArg V.str (by decide +kernel))) _ ?_
        refine c_cons ?_
        refine (vis vc (w := .str (sO ([46, 46, 97]))) (congrArg V.str (by decide +kernel))) _ ?_
        refine c_cons ?_
        refine (vis vc (w := .str (sO ([46, 46, 46]))) (congrArg V.str (by decide +kernel))) _ ?_
        refine c_cons ?_
        refine (vis vc (w := .str (sO ([97, 46]))) (congrArg V.str (by decide +kernel))) _ ?_
        refine c_cons ?_
        refine (vis vc (w := .str (sO ([32]))) (congrArg V.str (by decide +kernel))) _ ?_
        refine c_cons ?_
        refine (vis vc (w := .str (sO ([126]))) (congrArg V.str (by decide +kernel))) _ ?_
        refine c_cons ?_
        refine (vis vc (w := .str (sO ([97, 32, 98]))) (congrArg V.str (by decide +kernel))) _ ?_
        refine c_nil ?_
        refine ⟨sz1 (by show 7 ≤ 1000000; decide), fun p18 np18 => ?_⟩
        have s19 : Hs G0 H Z0 [c p18 (.lst ([V.str (sO ([46, 97])), V.str (sO ([46, 46, 97])), V.str (sO ([46, 46, 46])), V.str (sO ([97, 46])), V.str (sO ([32])), V.str (sO ([126])), V.str (sO ([97, 32, 98]))]))] _ _ := sI.new np18 (.lst ([V.str (sO ([46, 97])), V.str (sO ([46, 46, 97])), V.str (sO ([46, 46, 46])), V.str (sO ([97, 46])), V.str (sO ([32])), V.str (sO ([126])), V.str (sO ([97, 32, 98]))]))
        obtain ⟨n20, en20⟩ : ∃ n_ : Int, n_ = ((n / 7) % 7) := ⟨_, rfl⟩
        have en200 : 0 ≤ n20 := by rw [en20]; exact Int.emod_nonneg _ (by walk_at "side")
        have en201 : n20 < 7 := by rw [en20]; exact Int.emod_lt_of_pos _ (by walk_at "side")
        refine (vis (v1 (C := fun _ j => 0 < j) (g := fun i j => .int (i % j)) (i := n / 7) (j := 7) (by walk_at "side") (v1 (C := CDiv) (g := fun i j => .int (i / j)) (i := n) (j := 7) ⟨by walk_at "side", by walk_at "side"⟩ (vint (vv 0 rfl)) vc) vc) (congrArg V.int en20.symm)) _ ?_
        refine ⟨_, (([[46, 97], [46, 46, 97], [46, 46, 46], [97, 46], [32], [126], [97, 32, 98]] : List (List Nat)).map fun t => V.str (sO t)), _, _, rfl, rfl, (SqL.of (s19.mem 0 rfl)), (at_gs (by walk_at "side") (by walk_at "side")), ?_⟩
        refine k_set [some (V.int n), some (V.str (sO (gs ([[46, 97], [46, 46, 97], [46, 46, 46], [97, 46], [32], [126], [97, 32, 98]] : List (List Nat)) n20))), y__law_char_here] rfl ?_
        refine s_nxs ?_
        have hgl := gs_le (ts := ([[46, 97], [46, 46, 97], [46, 46, 46], [97, 46], [32], [126], [97, 32, 98]] : List (List Nat))) (i := n20) (n := 28) (by decide)
        refine s_if (p := ((gs ([[46, 97], [46, 46, 97], [46, 46, 46], [97, 46], [32], [126], [97, 32, 98]] : List (List Nat)) n20) = ([46])) ∨ ((gs ([[46, 97], [46, 46, 97], [46, 46, 46], [97, 46], [32], [126], [97, 32, 98]] : List (List Nat)) n20) = ([46, 46]))) (aor (vtest (veqS (a := (gs ([[46, 97], [46, 46, 97], [46, 46, 46], [97, 46], [32], [126], [97, 32, 98]] : List (List Nat)) n20)) (b := ([46])) (vv 1 rfl) (vis vc (w := .str (sO ([46]))) (congrArg V.str (by decide +kernel))))) (fun hc => (vtest (veqS (a := (gs ([[46, 97], [46, 46, 97], [46, 46, 46], [97, 46], [32], [126], [97, 32, 98]] : List (List Nat)) n20)) (b := ([46, 46])) (vv 1 rfl) (vis vc (w := .str (sO ([46, 46]))) (congrArg V.str (by decide +kernel))))))) (fun h21 => ?_) (fun h21 => ?_)
        · -- then line 91
          refine s_set [some (V.int n), some (V.str (sO ((gs ([[46, 97], [46, 46, 97], [46, 46, 46], [97, 46], [32], [126], [97, 32, 98]] : List (List Nat)) n20) ++ ([95])))), y__law_char_here] (vcat (a := (gs ([[46, 97], [46, 46, 97], [46, 46, 46], [97, 46], [32], [126], [97, 32, 98]] : List (List Nat)) n20)) (b := ([95])) (by walk_at "side") (vv 1 rfl) (vis vc (w := .str (sO ([95]))) (congrArg V.str (by decide +kernel)))) rfl ?_
          refine s_nxs ?_
          refine s_ret (vv 1 rfl) ?_
          have s22 : Hs G0 H Z0 [] _ _ := (s19.pick [] (by decide) (by walk_at "finL"))
          exact fin (kq ((gs ([[46, 97], [46, 46, 97], [46, 46, 46], [97, 46], [32], [126], [97, 32, 98]] : List (List Nat)) n20) ++ ([95])) _ _ s22 (by first | rfl | exact nm_dot (by assumption) | exact nm_ts (gs_mem (by walk_at "side") (by walk_at "side")) (by assumption) | exact nm_mk (by omega) (by omega) hI1 hI2 (by assumption))) (by first | rfl | exact nm_dot (by assumption) | exact nm_ts (gs_mem (by walk_at "side") (by walk_at "side")) (by assumption) | exact nm_mk (by omega) (by omega) hI1 hI2 (by assumption))
        · -- else line 91
          refine s_nxs ?_
          refine s_ret (vv 1 rfl) ?_
          have s23 : Hs G0 H Z0 [] _ _ := (s19.pick [] (by decide) (by walk_at "finL"))
          exact fin (kq (gs ([[46, 97], [46, 46, 97], [46, 46, 46], [97, 46], [32], [126], [97, 32, 98]] : List (List Nat)) n20) _ _ s23 (by first | rfl | exact nm_dot (by assumption) | exact nm_ts (gs_mem (by walk_at "side") (by walk_at "side")) (by assumption) | exact nm_mk (by omega) (by omega) hI1 hI2 (by assumption))) (by first | rfl | exact nm_dot (by assumption) | exact nm_ts (gs_mem (by walk_at "side") (by walk_at "side")) (by assumption) | exact nm_mk (by omega) (by omega) hI1 hI2 (by assumption))
      · -- else line 89
        refine s_nxs ?_
        refine s_if (p := (t = ([46])) ∨ (t = ([46, 46]))) (aor (vtest (veqS (a := t) (b := ([46])) (vv 1 rfl) (vis vc (w := .str (sO ([46]))) (congrArg V.str (by decide +kernel))))) (fun hc => (vtest (veqS (a := t) (b := ([46, 46])) (vv 1 rfl) (vis vc (w := .str (sO ([46, 46]))) (congrArg V.str (by decide +kernel))))))) (fun h24 => ?_) (fun h24 => ?_)
        · -- then line 91
          refine s_set [some (V.int n), some (V.str (sO (t ++ ([95])))), y__law_char_here] (vcat (a := t) (b := ([95])) (by walk_at "side") (vv 1 rfl) (vis vc (w := .str (sO ([95]))) (congrArg V.str (by decide +kernel)))) rfl ?_
          refine s_nxs ?_
          refine s_ret (vv 1 rfl) ?_
          have s25 : Hs G0 H Z0 [] _ _ := (sI.pick [] (by decide) (by walk_at "finL"))
          exact fin (kq (t ++ ([95])) _ _ s25 (by first | rfl | exact nm_dot (by assumption) | exact nm_ts (gs_mem (by walk_at "side") (by walk_at "side")) (by assumption) | exact nm_mk (by omega) (by omega) hI1 hI2 (by assumption))) (by first | rfl | exact nm_dot (by assumption) | exact nm_ts (gs_mem (by walk_at "side") (by walk_at "side")) (by assumption) | exact nm_mk (by omega) (by omega) hI1 hI2 (by assumption))
        · -- else line 91
          refine s_nxs ?_
          refine s_ret (vv 1 rfl) ?_
          have s26 : Hs G0 H Z0 [] _ _ := (sI.pick [] (by decide) (by walk_at "finL"))
          exact fin (kq t _ _ s26 (by first | rfl | exact nm_dot (by assumption) | exact nm_ts (gs_mem (by walk_at "side") (by walk_at "side")) (by assumption) | exact nm_mk (by omega) (by omega) hI1 hI2 (by assumption))) (by first | rfl | exact nm_dot (by assumption) | exact nm_ts (gs_mem (by walk_at "side") (by walk_at "side")) (by assumption) | exact nm_mk (by omega) (by omega) hI1 hI2 (by assumption))
end
end X
namespace X
open PySem PySem.Spec PyProof.Rows L2 G
section
variable {P : Program} {w : World} {K : PySem.W.Frag} {mg : Str → Option Value} {base : Heap} {A : Ads}
theorem ok__law_octets (T : Txt K mg A) : FnOk P w K mg base CX0 1 A.a__law_octets A.d__law_octets ["_law_name_here", "_law_number"] (sp__law_octets K A) := by
  refine T.F__law_octets.ok sc__law_octets (fun vs H Q E h => ?_) (fun cdv A' outer s H vs Q E hRm h => ?_)
  · obtain ⟨t, n, rfl, _⟩ := h
    rfl
  · obtain ⟨t, n, rfl, hl, G0, Z0, s0, kq⟩ := h
    have hUn := hu_of hRm
    refine ⟨_, (pss_cons (ps_ret (pe_op op_cat (pe_op op_cat (pe_lst (pa_cons (pe_op op_mod (pv 1) pe_int) (pa_cons (pe_op op_fdiv (pv 1) pe_int) (pa_cons (pe_callB call_len_str (by rfl) T.z_len PySem.boot_len (pa_cons (pv 0) pa_nil)) pa_nil)))) (pe_lc (own := [("_law_char_here", 2)]) (g := gName 2) (tt := tYes) rfl sc__law_octets.nd (pi_str (pv 0)) (blkOk_by (N := ["_law_name_here", "_law_number", "_law_char_here"]) (sc := defScope st__law_octets) (by decide +kernel)) (fun _ _ _ _ _ => pg_name (i := 2) sc__law_octets.nd rfl (Or.inl rfl)) (fun _ _ _ _ _ => pts_nil) (fun _ _ _ _ _ => (pe_callB call_ord (by rfl) T.z_ord (by decide +kernel) (pa_cons (pv 2) pa_nil))))) (pe_op op_rep (pe_lst (pa_cons pe_int pa_nil)) (pe_op op_sub pe_int (pe_callB call_len_str (by rfl) T.z_len PySem.boot_len (pa_cons (pv 0) pa_nil)))))) pss_nil), ?_⟩
    refine c_sig [some (V.str (sO t)), some (V.int n), none] rfl ?_
    refine c_ret ?_
    refine c_op ?_
    refine c_op ?_
    refine c_lst ?_
    refine c_cons ?_
    obtain ⟨n1, en1⟩ : ∃ n_ : Int, n_ = (n % 256) := ⟨_, rfl⟩
    have en10 : 0 ≤ n1 := by rw [en1]; exact Int.emod_nonneg _ (by walk_at "side")
    have en11 : n1 < 256 := by rw [en1]; exact Int.emod_lt_of_pos _ (by walk_at "side")
    refine (vis (v1 (C := fun _ j => 0 < j) (g := fun i j => .int (i % j)) (i := n) (j := 256) (by walk_at "side") (vv 1 rfl) vc) (congrArg V.int en1.symm)) _ ?_
    refine c_cons ?_
    obtain ⟨n2, en2⟩ : ∃ n_ : Int, n_ = (n / 256) := ⟨_, rfl⟩
    refine (vis (v1 (C := CDiv) (g := fun i j => .int (i / j)) (i := n) (j := 256) ⟨by walk_at "side", by walk_at "side"⟩ (vv 1 rfl) vc) (congrArg V.int en2.symm)) _ ?_
    refine c_cons ?_
    obtain ⟨n3, en3⟩ : ∃ n_ : Int, n_ = ((t.length : Int)) := ⟨_, rfl⟩
    refine (vis (vlenS (a := t) (by walk_at "side") (vv 0 rfl)) (congrArg V.int en3.symm)) _ ?_
    refine c_nil ?_
    refine ⟨sz1 (by show 3 ≤ 1000000; decide), fun p4 np4 => ?_⟩
    have s5 : Hs G0 H Z0 [c p4 (.lst ([V.int n1, V.int n2, V.int n3]))] _ _ := s0.new np4 (.lst ([V.int n1, V.int n2, V.int n3]))
    refine c_lcS (a := t) (fun (c10 : Nat) => V.int (c10 : Int)) s5 (vv 0 rfl) (by walk_at "side") (fun _ => rfl) (fun i6 c10 H9 h8 s7 => (vord (vv 2 rfl))) (fun p11 H13 s14 => ?_)
    have s15 : Hs G0 H Z0 [c p11 (.lst ((t.map (fun (c_ : Nat) => (c_ : Int))).map V.int)), c p4 (.lst ([V.int n1, V.int n2, V.int n3]))] _ _ := Hs.cg (by rw [← map_comp_V (fun (c_ : Nat) => (c_ : Int)) V.int t]) s14
    refine c_cat (s15.mem 1 rfl) (s15.mem 0 rfl) (by walk_at "side") (fun p16 np16 => ?_)
    have s17 : Hs G0 H Z0 [c p16 (.lst ((([n1, n2, n3]) ++ (t.map (fun (c_ : Nat) => (c_ : Int)))).map V.int)), c p11 (.lst ((t.map (fun (c_ : Nat) => (c_ : Int))).map V.int)), c p4 (.lst ([V.int n1, V.int n2, V.int n3]))] _ _ := Hs.cgh ((cat_eq (a := [n1, n2, n3]) (b := t.map (fun (c_ : Nat) => (c_ : Int))) rfl rfl).symm) (s15.new np16 (.lst (([V.int n1, V.int n2, V.int n3]) ++ ((t.map (fun (c_ : Nat) => (c_ : Int))).map V.int))))
    refine c_op ?_
    refine c_lst ?_
    refine c_cons ?_
    refine vc _ ?_
    refine c_nil ?_
    refine ⟨sz1 (by show 1 ≤ 1000000; decide), fun p18 np18 => ?_⟩
    have s19 : Hs G0 H Z0 [c p18 (.lst ([V.int 0])), c p16 (.lst ((([n1, n2, n3]) ++ (t.map (fun (c_ : Nat) => (c_ : Int)))).map V.int)), c p11 (.lst ((t.map (fun (c_ : Nat) => (c_ : Int))).map V.int)), c p4 (.lst ([V.int n1, V.int n2, V.int n3]))] _ _ := s17.new np18 (.lst ([V.int 0]))
    obtain ⟨n20, en20⟩ : ∃ n_ : Int, n_ = (29 - (t.length : Int)) := ⟨_, rfl⟩
    refine (vis (v0 (g := fun i j => .int (i - j)) vc (vlenS (a := t) (by walk_at "side") (vv 0 rfl))) (congrArg V.int en20.symm)) _ ?_
    refine ⟨_, _, _, rfl, rfl, (s19.mem 0 rfl), by walk_at "side", by walk_at "side", sz1 (by walk_at "side"), fun p21 np21 => ?_⟩
    have s22 : Hs G0 H Z0 [c p21 (.lst ((List.replicate n20.toNat 0).map V.int)), c p18 (.lst ([V.int 0])), c p16 (.lst ((([n1, n2, n3]) ++ (t.map (fun (c_ : Nat) => (c_ : Int)))).map V.int)), c p11 (.lst ((t.map (fun (c_ : Nat) => (c_ : Int))).map V.int)), c p4 (.lst ([V.int n1, V.int n2, V.int n3]))] _ _ := Hs.cgh (congrArg HO.lst ((List.map_replicate ..).trans (rep_one _ _).symm)) (s19.new np21 (.lst ((List.replicate n20.toNat [V.int 0]).flatten)))
    refine c_cat (s22.mem 2 rfl) (s22.mem 0 rfl) (by walk_at "side") (fun p23 np23 => ?_)
    have s24 : Hs G0 H Z0 [c p23 (.lst (((([n1, n2, n3]) ++ (t.map (fun (c_ : Nat) => (c_ : Int)))) ++ (List.replicate n20.toNat 0)).map V.int)), c p21 (.lst ((List.replicate n20.toNat 0).map V.int)), c p18 (.lst ([V.int 0])), c p16 (.lst ((([n1, n2, n3]) ++ (t.map (fun (c_ : Nat) => (c_ : Int)))).map V.int)), c p11 (.lst ((t.map (fun (c_ : Nat) => (c_ : Int))).map V.int)), c p4 (.lst ([V.int n1, V.int n2, V.int n3]))] _ _ := Hs.cgh ((cat_eq (a := ([n1, n2, n3]) ++ (t.map (fun (c_ : Nat) => (c_ : Int)))) (b := List.replicate n20.toNat 0) rfl rfl).symm) (s22.new np23 (.lst (((([n1, n2, n3]) ++ (t.map (fun (c_ : Nat) => (c_ : Int)))).map V.int) ++ ((List.replicate n20.toNat 0).map V.int))))
    have s25 : Hs G0 H Z0 [c p23 (.lst ((octL t n).map V.int))] _ _ := (s24.pick [0] (by decide) (by walk_at "finL"))
    exact fin (kq p23 _ _ s25 ) (by rfl)
end
end X
namespace X
open PySem PySem.Spec PyProof.Rows L2 G
section
variable {P : Program} {w : World} {K : PySem.W.Frag} {mg : Str → Option Value} {base : Heap} {A : Ads}
theorem ok__law_good (T : Txt K mg A) : FnOk P w K mg base CX0 1 A.a__law_good A.d__law_good ["_law_octets_here"] (sp__law_good K A) := by
  refine T.F__law_good.ok sc__law_good (fun vs H Q E h => ?_) (fun cdv A' outer s H vs Q E hRm h => ?_)
  · obtain ⟨a, ns, rfl, _⟩ := h
    rfl
  · obtain ⟨a, ns, rfl, hl, hbd, G0, Z0, s0, kq⟩ := h
    have hUn := hu_of hRm
    refine ⟨_, (pss_cons (ps_set (i := 1) sc__law_good.nd rfl (.inl rfl) (pe_ix ix_list (pv 0) pe_int (fun _ _ => rfl))) (pss_cons (ps_if (pw_or (pt_cmpR op_eq (pe_op op_add (pe_ix ix_list (pv 0) pe_int (fun _ _ => rfl)) (pe_ix ix_list (pv 0) pe_int (fun _ _ => rfl))) pe_int (nomark _)) (pw_or (pt_cmpR op_lt (pv 1) pe_int (nomark _)) (pw_or1 (pt_cmpR op_gt (pv 1) pe_int (nomark _))))).pt (pss_cons (ps_ret pe_bl) pss_nil) pss_nil) (pss_cons (ps_for PassesOwn.never rfl (pi_range1 rfl T.z_range (pa_cons pe_int pa_nil)) (pg_name (i := 2) sc__law_good.nd rfl (.inl rfl)) (pss_cons (ps_set (i := 3) sc__law_good.nd rfl (.inl rfl) (pe_ix ix_list (pv 0) (pe_op op_add pe_int (pv 2)) (fun _ _ => rfl))) (pss_cons (ps_if (pw_and (pt_cmpR op_ge (pv 2) (pv 1) (nomark _)) (pw_and1 (pt_cmpR op_ne (pv 3) pe_int (nomark _)))).pt (pss_cons (ps_ret pe_bl) pss_nil) pss_nil) (pss_cons (ps_if (pw_and (pt_cmpR op_lt (pv 2) (pv 1) (nomark _)) (pw_and1 (pw_or (pt_cmpR op_lt (pv 3) pe_int (nomark _)) (pw_or (pt_cmpR op_gt (pv 3) pe_int (nomark _)) (pw_or (pt_cmpR op_eq (pv 3) pe_int (nomark _)) (pw_or1 (pt_cmpR op_eq (pv 3) pe_int (nomark _)))))).pt)).pt (pss_cons (ps_ret pe_bl) pss_nil) pss_nil) pss_nil)))) (pss_cons (ps_ret (pe_and (pe_cmpR (op_neD hRm.units) (pe_slice sl_list (pv 0) (po_some pe_int) (po_some (pe_op op_add pe_int (pv 1)))) (pe_lst (pa_cons pe_int pa_nil)) (nomark _)) (pe_one (pe_cmpR (op_neD hRm.units) (pe_slice sl_list (pv 0) (po_some pe_int) (po_some (pe_op op_add pe_int (pv 1)))) (pe_lst (pa_cons pe_int (pa_cons pe_int pa_nil))) (nomark _))))) pss_nil)))), ?_⟩
    refine c_sig [some (V.ref a), none, none, none] rfl ?_
    have h2b := hbd _ (gi_mem (ns := ns) (i := 2) (by omega) (by omega))
    obtain ⟨n1, en1⟩ : ∃ n_ : Int, n_ = (gi ns 2) := ⟨_, rfl⟩
    refine s_set [some (V.ref a), some (V.int n1), none, none] (vis (vixL (vv 0 rfl) vc (xs := (ns.map V.int)) (SqL.of (s0.mem 0 rfl)) (at_gi (by walk_at "side") (by walk_at "side"))) (congrArg V.int en1.symm)) rfl ?_
    refine s_if (p := (((gi ns 0) + (gi ns 1)) = 0) ∨ ((n1 < 1) ∨ (n1 > 28))) (aor (vtest (veq (v0 (g := fun i j => .int (i + j)) (vixL (vv 0 rfl) vc (xs := (ns.map V.int)) (SqL.of (s0.mem 0 rfl)) (at_gi (by walk_at "side") (by walk_at "side"))) (vixL (vv 0 rfl) vc (xs := (ns.map V.int)) (SqL.of (s0.mem 0 rfl)) (at_gi (by walk_at "side") (by walk_at "side")))) vc)) (fun hc => (aor (vtest (v0 (g := fun i j => .bl (decide (i < j))) (vv 1 rfl) vc)) (fun hc => (vtest (v0 (g := fun i j => .bl (decide (j < i))) (vv 1 rfl) vc)))))) (fun h2 => ?_) (fun h2 => ?_)
    · -- then line 98
      refine s_ret vc ?_
      have s3 : Hs G0 H Z0 [c a (.lst (ns.map V.int))] _ _ := (s0.pick [0] (by decide) (by walk_at "finL"))
      exact fin (kq  _ _ s3 ) (by first | exact congrArg V.bl (good_f1 hl hbd (by subst_vars; assumption)) | exact congrArg V.bl (good_f2 hl hbd (pk_f1 (by subst_vars; assumption)) (by omega) (by omega)) | exact congrArg V.bl (good_f2 hl hbd (pk_f2 (by subst_vars; assumption)) (by omega) (by omega)) | (subst_vars; exact congrArg V.bl (good_t hl hbd (by omega) (by omega) (by omega) hI0)))
    · -- else line 98
      refine s_nxs ?_
      refine s_forR1 (va vc va0) ⟨by walk_at "side", by walk_at "side"⟩ (fun i4 σ' H' => ∃ (Z' : Hp) (y__law_code : Option V) (y__law_k : Option V), σ' = [some (V.ref a), some (V.int n1), y__law_k, y__law_code] ∧ Hs G0 H Z0 [c a (.lst (ns.map V.int))] H' Z' ∧ (∀ k : Int, 0 ≤ k → k < i4 → PkG ns k)) ?_ ?_ ?_
      · -- start
        refine ⟨_, _, _, rfl, s0.pick [0] (by decide) (by walk_at "finL"), ?_⟩
        · intro k h1 h2; omega
      · intro i4 σ' H' h5 hP; obtain ⟨Z', y__law_code, y__law_k, rfl, sI, hI0⟩ := hP
        refine c_sig [some (V.ref a), some (V.int n1), some (V.int (i4 : Int)), y__law_code] rfl ?_
        obtain ⟨n7, en7⟩ : ∃ n_ : Int, n_ = (gi ns (3 + (i4 : Int))) := ⟨_, rfl⟩
        refine s_set [some (V.ref a), some (V.int n1), some (V.int (i4 : Int)), some (V.int n7)] (vis (vixL (vv 0 rfl) (v0 (g := fun i j => .int (i + j)) vc (vv 2 rfl)) (xs := (ns.map V.int)) (SqL.of (sI.mem 0 rfl)) (at_gi (by walk_at "side") (by walk_at "side"))) (congrArg V.int en7.symm)) rfl ?_
        refine s_if (p := ((i4 : Int) ≥ n1) ∧ (n7 ≠ 0)) (aand (vtest (v0 (g := fun i j => .bl (decide (j ≤ i))) (vv 2 rfl) (vv 1 rfl))) (fun hc => (vtest (vne (vv 3 rfl) vc)))) (fun h8 => ?_) (fun h8 => ?_)
        · -- then line 102
          refine s_ret vc ?_
          have s9 : Hs G0 H Z0 [c a (.lst (ns.map V.int))] _ _ := (sI.pick [0] (by decide) (by walk_at "finL"))
          exact fin (kq  _ _ s9 ) (by first | exact congrArg V.bl (good_f1 hl hbd (by subst_vars; assumption)) | exact congrArg V.bl (good_f2 hl hbd (pk_f1 (by subst_vars; assumption)) (by omega) (by omega)) | exact congrArg V.bl (good_f2 hl hbd (pk_f2 (by subst_vars; assumption)) (by omega) (by omega)) | (subst_vars; exact congrArg V.bl (good_t hl hbd (by omega) (by omega) (by omega) hI0)))
        · -- else line 102
          refine s_nxs ?_
          refine s_if (p := ((i4 : Int) < n1) ∧ ((n7 < 32) ∨ ((n7 > 126) ∨ ((n7 = 37) ∨ (n7 = 47))))) (aand (vtest (v0 (g := fun i j => .bl (decide (i < j))) (vv 2 rfl) (vv 1 rfl))) (fun hc => (aor (vtest (v0 (g := fun i j => .bl (decide (i < j))) (vv 3 rfl) vc)) (fun hc => (aor (vtest (v0 (g := fun i j => .bl (decide (j < i))) (vv 3 rfl) vc)) (fun hc => (aor (vtest (veq (vv 3 rfl) vc)) (fun hc => (vtest (veq (vv 3 rfl) vc)))))))))) (fun h10 => ?_) (fun h10 => ?_)
          · -- then line 104
            refine s_ret vc ?_
            have s11 : Hs G0 H Z0 [c a (.lst (ns.map V.int))] _ _ := (sI.pick [0] (by decide) (by walk_at "finL"))
            exact fin (kq  _ _ s11 ) (by first | exact congrArg V.bl (good_f1 hl hbd (by subst_vars; assumption)) | exact congrArg V.bl (good_f2 hl hbd (pk_f1 (by subst_vars; assumption)) (by omega) (by omega)) | exact congrArg V.bl (good_f2 hl hbd (pk_f2 (by subst_vars; assumption)) (by omega) (by omega)) | (subst_vars; exact congrArg V.bl (good_t hl hbd (by omega) (by omega) (by omega) hI0)))
          · -- else line 104
            refine s_nxs ?_
            refine s_nx ?_
            refine ⟨_, _, _, rfl, sI.pick [0] (by decide) (by walk_at "finL"), ?_⟩
            · intro k h1 h2; by_cases hk : k = (i4 : Int)
              · rw [hk]; subst_vars; exact pk_t (by assumption) (by assumption)
              · exact hI0 k h1 (by omega)
      · intro σ' H' hP; obtain ⟨Z', y__law_code, y__law_k, rfl, sI, hI0⟩ := hP
        refine c_ret ?_
        refine c_andW (pP := (cutI ns 3 (3 + n1)) ≠ ([46] : List Int)) (qQ := (cutI ns 3 (3 + n1)) ≠ ([46, 46] : List Int)) sI (fun Q' kQ => ?_) (fun H13 Z15 s14 h12 Q' kQ => ?_) (fun H16 Z18 s17 => ?_)
        · -- the first part
          refine c_op ?_
          refine (vv 0 rfl) _ ((vp1 vc) _ ((vp1 (v0 (g := fun i j => .int (i + j)) vc (vv 1 rfl))) _ (r_slL (SqL.of (sI.mem 0 rfl)) (by show (0 : Int) ≤ 3; walk_at "side") (by show (3 : Int) ≤ (ns.length : Int); walk_at "side") (by show (0 : Int) ≤ 3 + n1; walk_at "side") (by show (3 + n1 : Int) ≤ (ns.length : Int); walk_at "side") fun p19 np19 => ?_)))
          have s20 : Hs G0 H Z0 [c p19 (.lst ((cutI ns 3 (3 + n1)).map V.int)), c a (.lst (ns.map V.int))] _ _ := sI.new np19 (.lst ((cutI ns 3 (3 + n1)).map V.int))
          refine c_lst ?_
          refine c_cons ?_
          refine vc _ ?_
          refine c_nil ?_
          refine ⟨sz1 (by show 1 ≤ 1000000; decide), fun p21 np21 => ?_⟩
          have s22 : Hs G0 H Z0 [c p21 (.lst ([V.int 46])), c p19 (.lst ((cutI ns 3 (3 + n1)).map V.int)), c a (.lst (ns.map V.int))] _ _ := s20.new np21 (.lst ([V.int 46]))
          refine ⟨.list ((cutI ns 3 (3 + n1)).map PyData.int), .list (([46] : List Int).map PyData.int), (.lst (SqL.of (s22.mem 1 rfl)) (dps_ints (cutI ns 3 (3 + n1)))), (.lst (SqL.of (s22.mem 0 rfl)) (dps_ints ([46] : List Int))), (by walk_at "shp"), (by walk_at "shp"), ?_⟩
          rw [eqvL_ints, dec_not]
          exact kQ _ _ (s22.pick [2] (by decide) rfl)
        · -- the second part
          refine c_op ?_
          refine (vv 0 rfl) _ ((vp1 vc) _ ((vp1 (v0 (g := fun i j => .int (i + j)) vc (vv 1 rfl))) _ (r_slL (SqL.of (s14.mem 0 rfl)) (by show (0 : Int) ≤ 3; walk_at "side") (by show (3 : Int) ≤ (ns.length : Int); walk_at "side") (by show (0 : Int) ≤ 3 + n1; walk_at "side") (by show (3 + n1 : Int) ≤ (ns.length : Int); walk_at "side") fun p23 np23 => ?_)))
          have s24 : Hs G0 H Z0 [c p23 (.lst ((cutI ns 3 (3 + n1)).map V.int)), c a (.lst (ns.map V.int))] _ _ := s14.new np23 (.lst ((cutI ns 3 (3 + n1)).map V.int))
          refine c_lst ?_
          refine c_cons ?_
          refine vc _ ?_
          refine c_cons ?_
          refine vc _ ?_
          refine c_nil ?_
          refine ⟨sz1 (by show 2 ≤ 1000000; decide), fun p25 np25 => ?_⟩
          have s26 : Hs G0 H Z0 [c p25 (.lst ([V.int 46, V.int 46])), c p23 (.lst ((cutI ns 3 (3 + n1)).map V.int)), c a (.lst (ns.map V.int))] _ _ := s24.new np25 (.lst ([V.int 46, V.int 46]))
          refine ⟨.list ((cutI ns 3 (3 + n1)).map PyData.int), .list (([46, 46] : List Int).map PyData.int), (.lst (SqL.of (s26.mem 1 rfl)) (dps_ints (cutI ns 3 (3 + n1)))), (.lst (SqL.of (s26.mem 0 rfl)) (dps_ints ([46, 46] : List Int))), (by walk_at "shp"), (by walk_at "shp"), ?_⟩
          rw [eqvL_ints, dec_not]
          exact kQ _ _ (s26.pick [2] (by decide) rfl)
        · -- on
          have s27 : Hs G0 H Z0 [c a (.lst (ns.map V.int))] _ _ := (s17.pick [0] (by decide) (by walk_at "finL"))
          exact fin (kq  _ _ s27 ) (by first | exact congrArg V.bl (good_f1 hl hbd (by subst_vars; assumption)) | exact congrArg V.bl (good_f2 hl hbd (pk_f1 (by subst_vars; assumption)) (by omega) (by omega)) | exact congrArg V.bl (good_f2 hl hbd (pk_f2 (by subst_vars; assumption)) (by omega) (by omega)) | (subst_vars; exact congrArg V.bl (good_t hl hbd (by omega) (by omega) (by omega) hI0)))
end
end X
namespace X
open PySem PySem.Spec PyProof.Rows L2 G
section
variable {P : Program} {w : World} {K : PySem.W.Frag} {mg : Str → Option Value} {base : Heap} {A : Ads}
theorem ok__law_reads (T : Txt K mg A) : FnOk P w K mg base CX0 5 A.a__law_reads A.d__law_reads ["_law_octets_here"] (sp__law_reads K A) := by
  have G_decode_entry : FnOk P w K mg base CX0 4 A.a_decode_entry A.d_decode_entry ["octets"] (sp_decode_entry K A) := ok_decode_entry T
  have G__law_good : FnOk P w K mg base CX0 1 A.a__law_good A.d__law_good ["_law_octets_here"] (sp__law_good K A) := ok__law_good T
  have G__law_is_integer : FnOk P w K mg base CX0 1 A.a__law_is_integer A.d__law_is_integer ["_law_actual"] (sp__law_is_integer K A) := ok__law_is_integer T
  have G_encode_entry : FnOk P w K mg base CX0 2 A.a_encode_entry A.d_encode_entry ["name", "number"] (sp_encode_entry K A) := ok_encode_entry T
  refine T.F__law_reads.ok sc__law_reads (fun vs H Q E h => ?_) (fun cdv A' outer s H vs Q E hRm h => ?_)
  · obtain ⟨a, ns, rfl, _⟩ := h
    rfl
  · obtain ⟨a, ns, rfl, hl, hbd, G0, Z0, s0, kq⟩ := h
    have hUn := hu_of hRm
    refine ⟨_, (pss_cons (ps_set (i := 1) sc__law_reads.nd rfl (.inl rfl) (pe_callTy call_list_of (by rfl) T.z_list (by decide +kernel) (pa_cons (pv 0) pa_nil))) (pss_cons (ps_set (i := 2) sc__law_reads.nd rfl (.inl rfl) (pe_call G_decode_entry (hRm.mono (by decide)) (by rfl) T.g_decode_entry T.F_decode_entry.kp T.b_decode_entry .nil pass0 (pa_cons (pv 1) pa_nil))) (pss_cons (ps_if (pt_cmpR (op_neD hRm.units) (pv 1) (pv 0) (nomark _)) (pss_cons ps_never pss_nil) pss_nil) (pss_cons (ps_if (pt_not (pt_val (pe_call G__law_good (hRm.mono (by decide)) (by rfl) T.g__law_good T.F__law_good.kp T.b__law_good .nil pass0 (pa_cons (pv 0) pa_nil)) (fun _ => rfl))) (pss_cons (ps_ret (pe_cmpR op_isN (pv 2) pe_non (nomark _))) pss_nil) pss_nil) (pss_cons (ps_if (pw_or (pt_not (pt_val (pe_callB call_isi (by rfl) T.z_isinstance (by decide +kernel) (pa_cons (pv 2) (pa_cons (pe_bltn (v := .ty "tuple") (u := .type "tuple") (by rfl) T.z_tuple (by decide +kernel) rfl) pa_nil))) (fun _ => rfl))) (pw_or (pt_cmpR op_ne (pe_callB call_len_seq (by rfl) T.z_len PySem.boot_len (pa_cons (pv 2) pa_nil)) pe_int (nomark _)) (pw_or1 (pt_not (pt_val (pe_callB call_isi (by rfl) T.z_isinstance (by decide +kernel) (pa_cons (pe_ix ix_tup (pv 2) pe_int (fun _ _ => rfl)) (pa_cons (pe_bltn (v := .ty "str") (u := .type "str") (by rfl) T.z_str (by decide +kernel) rfl) pa_nil))) (fun _ => rfl)))))).pt (pss_cons (ps_ret pe_bl) pss_nil) pss_nil) (pss_cons (ps_ret (pe_and (pe_call G__law_is_integer (hRm.mono (by decide)) (by rfl) T.g__law_is_integer T.F__law_is_integer.kp T.b__law_is_integer .nil pass0 (pa_cons (pe_ix ix_tup (pv 2) pe_int (fun _ _ => rfl)) pa_nil)) (pe_one (pe_cmpR (op_eqD hRm.units) (pe_call G_encode_entry (hRm.mono (by decide)) (by rfl) T.g_encode_entry T.F_encode_entry.kp T.b_encode_entry .nil pass0 (pa_cons (pe_ix ix_tup (pv 2) pe_int (fun _ _ => rfl)) (pa_cons (pe_ix ix_tup (pv 2) pe_int (fun _ _ => rfl)) pa_nil))) (pv 0) (nomark _))))) pss_nil)))))), ?_⟩
    refine c_sig [some (V.ref a), none, none] rfl ?_
    refine c_set ?_
    refine c_cb ?_
    refine c_cons ?_
    refine (vv 0 rfl) _ ?_
    refine c_nil ?_
    refine ⟨_, _, rfl, .inl (SqL.of (s0.mem 0 rfl)), fun p1 np1 => ?_⟩
    have s2 : Hs G0 H Z0 [c p1 (.lst (ns.map V.int)), c a (.lst (ns.map V.int))] _ _ := s0.new np1 (.lst (ns.map V.int))
    refine k_set [some (V.ref a), some (V.ref p1), none] rfl ?_
    by_cases hG : EntG ns
    · -- case True
      refine c_set ?_
      refine c_callx ?_
      refine c_cons ?_
      refine (vv 1 rfl) _ ?_
      refine c_nil ?_
      obtain ⟨G4, g5, k6⟩ := s2.giv [0] [1] rfl
      refine .inl ⟨p1, ns, rfl, (by first | assumption | exact nm_len hG hl), (by assumption), (by assumption), G4, _, g5, fun p_3 H7 Z8 r9 => ?_⟩
      have s10 : Hs G0 H Z0 [fz p_3 (.tup ([V.str (sO (nmE ns)), V.int (valN (cutI ns 0 2))])), c p1 (.lst (ns.map V.int)), c a (.lst (ns.map V.int))] _ _ := k6 _ _ _ r9
      refine k_set [some (V.ref a), some (V.ref p1), some (V.ref p_3)] rfl ?_
      refine c_ifS ?_
      refine c_test ?_
      refine c_op ?_
      refine (vv 1 rfl) _ ?_
      refine (vv 0 rfl) _ ?_
      refine ⟨.list (ns.map PyData.int), .list (ns.map PyData.int), (.lst (SqL.of (s10.mem 1 rfl)) (dps_ints ns)), (.lst (SqL.of (s10.mem 2 rfl)) (dps_ints ns)), (by walk_at "shp"), (by walk_at "shp"), ?_⟩
      rw [show PyData.eqv (.list (ns.map PyData.int)) (.list (ns.map PyData.int)) = true from SeqAt.eqv_refl _ (SeqAt.canLay_of_shaped (by walk_at "shp"))]
      refine ⟨_, rfl, ?_⟩
      refine c_iteB (fun h12 => ?_) (fun h12 => ?_)
      · -- yes
        exfalso; first | exact absurd h12 (by decide) | walk_at "dead"
      · -- no
        refine s_nxs ?_
        refine c_ifS ?_
        refine c_not ?_
        refine c_tB ?_
        refine c_callx ?_
        refine c_cons ?_
        refine (vv 0 rfl) _ ?_
        refine c_nil ?_
        obtain ⟨G15, g16, k17⟩ := s10.giv [2] [0, 1] rfl
        refine ⟨a, ns, rfl, (by first | assumption | exact nm_len hG hl), (by assumption), G15, _, g16, fun H18 Z19 r20 => ?_⟩
        have s21 : Hs G0 H Z0 [c a (.lst (ns.map V.int)), fz p_3 (.tup ([V.str (sO (nmE ns)), V.int (valN (cutI ns 0 2))])), c p1 (.lst (ns.map V.int))] _ _ := k17 _ _ _ r20
        refine ⟨_, rfl, ?_⟩
        refine c_iten (p := EntG ns) (fun h14 => ?_) (fun h14 => ?_)
        · -- no
          refine s_ret (visN (vv 2 rfl)) ?_
          exfalso; first | contradiction | exact h14 hG | exact hG h14 | exact h14 (ent_enc hl hbd hG) | walk_at "dead"
        · -- yes
          refine s_nxs ?_
          refine s_if (p := (¬ (true = true)) ∨ ((2 ≠ 2) ∨ (¬ (true = true)))) (aor (anot (vB (vbool (visi (b := true) (tu := .type "tuple") (vv 2 rfl) vc (ClsV.ty "tuple") (.base (.tup (s21.fzm 1 rfl))) (kit_ty (by decide +kernel)))))) (fun hc => (aor (vtest (vne (vis (vlenT (vv 2 rfl) (SqT.of (s21.fzm 1 rfl))) (w := .int 2) (by rfl)) vc)) (fun hc => (anot (vB (vbool (visi (b := true) (tu := .type "str") (vixT (vv 2 rfl) vc (xs := _) (SqT.of (s21.fzm 1 rfl)) (by rfl)) vc (ClsV.ty "str") (.base (.str _)) (kit_ty (by decide +kernel)))))))))) (fun h22 => ?_) (fun h22 => ?_)
          · -- then line 114
            exfalso; first | exact absurd h22 (by decide) | walk_at "dead"
          · -- else line 114
            refine s_nxs ?_
            refine c_ret ?_
            refine (vcall (va (vixT (vv 2 rfl) vc (xs := _) (SqT.of (s21.fzm 1 rfl)) (by rfl)) va0) (fun _ kC => ⟨(valN (cutI ns 0 2)), rfl, kC⟩)) _ ⟨_, rfl, iteT ?_⟩
            refine c_op ?_
            refine c_callx ?_
            refine c_cons ?_
            refine (vixT (vv 2 rfl) vc (xs := _) (SqT.of (s21.fzm 1 rfl)) (by rfl)) _ ?_
            refine c_cons ?_
            obtain ⟨n23, en23⟩ : ∃ n_ : Int, n_ = (valN (cutI ns 0 2)) := ⟨_, rfl⟩
            refine (vis (vixT (vv 2 rfl) vc (xs := _) (SqT.of (s21.fzm 1 rfl)) (by rfl)) (congrArg V.int en23.symm)) _ ?_
            refine c_nil ?_
            obtain ⟨G25, g26, k27⟩ := s21.giv [] [0, 1, 2] rfl
            refine ⟨(nmE ns), n23, rfl, (by first | assumption | exact nm_len hG hl), G25, _, g26, fun p_24 H28 Z29 r30 => ?_⟩
            have s31 : Hs G0 H Z0 [c p_24 (.lst ((encE (nmE ns) n23).map V.int)), c a (.lst (ns.map V.int)), fz p_3 (.tup ([V.str (sO (nmE ns)), V.int (valN (cutI ns 0 2))])), c p1 (.lst (ns.map V.int))] _ _ := k27 _ _ _ r30
            refine (vv 0 rfl) _ ?_
            refine ⟨.list ((encE (nmE ns) n23).map PyData.int), .list (ns.map PyData.int), (.lst (SqL.of (s31.mem 0 rfl)) (dps_ints (encE (nmE ns) n23))), (.lst (SqL.of (s31.mem 1 rfl)) (dps_ints ns)), (by walk_at "shp"), (by walk_at "shp"), ?_⟩
            rw [eqvL_ints]
            have s32 : Hs G0 H Z0 [c a (.lst (ns.map V.int))] _ _ := (s31.pick [1] (by decide) (by walk_at "finL"))
            exact fin (kq  _ _ s32 ) (by first | rfl | (have hen := ent_enc hl hbd (by assumption); simp_all; done))
    · -- case False
      refine c_set ?_
      refine c_callx ?_
      refine c_cons ?_
      refine (vv 1 rfl) _ ?_
      refine c_nil ?_
      obtain ⟨G33, g34, k35⟩ := s2.giv [0] [1] rfl
      refine .inr ⟨p1, ns, rfl, (by first | assumption | exact nm_len hG hl), (by assumption), (by assumption), G33, _, g34, fun H36 Z37 r38 => ?_⟩
      have s39 : Hs G0 H Z0 [c p1 (.lst (ns.map V.int)), c a (.lst (ns.map V.int))] _ _ := k35 _ _ _ r38
      refine k_set [some (V.ref a), some (V.ref p1), some (V.non)] rfl ?_
      refine c_ifS ?_
      refine c_test ?_
      refine c_op ?_
      refine (vv 1 rfl) _ ?_
      refine (vv 0 rfl) _ ?_
      refine ⟨.list (ns.map PyData.int), .list (ns.map PyData.int), (.lst (SqL.of (s39.mem 0 rfl)) (dps_ints ns)), (.lst (SqL.of (s39.mem 1 rfl)) (dps_ints ns)), (by walk_at "shp"), (by walk_at "shp"), ?_⟩
      rw [show PyData.eqv (.list (ns.map PyData.int)) (.list (ns.map PyData.int)) = true from SeqAt.eqv_refl _ (SeqAt.canLay_of_shaped (by walk_at "shp"))]
      refine ⟨_, rfl, ?_⟩
      refine c_iteB (fun h41 => ?_) (fun h41 => ?_)
      · -- yes
        exfalso; first | exact absurd h41 (by decide) | walk_at "dead"
      · -- no
        refine s_nxs ?_
        refine c_ifS ?_
        refine c_not ?_
        refine c_tB ?_
        refine c_callx ?_
        refine c_cons ?_
        refine (vv 0 rfl) _ ?_
        refine c_nil ?_
        obtain ⟨G44, g45, k46⟩ := s39.giv [1] [0] rfl
        refine ⟨a, ns, rfl, (by first | assumption | exact nm_len hG hl), (by assumption), G44, _, g45, fun H47 Z48 r49 => ?_⟩
        have s50 : Hs G0 H Z0 [c a (.lst (ns.map V.int)), c p1 (.lst (ns.map V.int))] _ _ := k46 _ _ _ r49
        refine ⟨_, rfl, ?_⟩
        refine c_iten (p := EntG ns) (fun h43 => ?_) (fun h43 => ?_)
        · -- no
          refine s_ret (visN (vv 2 rfl)) ?_
          have s51 : Hs G0 H Z0 [c a (.lst (ns.map V.int))] _ _ := (s50.pick [0] (by decide) (by walk_at "finL"))
          exact fin (kq  _ _ s51 ) (by first | rfl | (have hen := ent_enc hl hbd (by assumption); simp_all; done))
        · -- yes
          refine s_nxs ?_
          refine c_ifS ?_
          refine c_or ?_
          refine c_not ?_
          refine (vB (vbool (visi (b := false) (tu := .type "NoneType") (vv 2 rfl) vc (ClsV.ty "tuple") (.base .non) (kit_ty (by decide +kernel))))) _ ?_
          refine c_iten (p := false = true) (fun h53 => ?_) (fun h53 => ?_)
          · -- no
            refine iteT ?_
            refine s_ret vc ?_
            exfalso; first | contradiction | exact h53 hG | exact hG h53 | exact h53 (ent_enc hl hbd hG) | walk_at "dead"
          · -- yes
            exfalso; first | exact absurd h53 (by decide) | walk_at "dead"
end
end X
namespace X
open PySem PySem.Spec PyProof.Rows L2 G
section
variable {P : Program} {w : World} {K : PySem.W.Frag} {mg : Str → Option Value} {base : Heap} {A : Ads}
theorem ok__law_is (T : Txt K mg A) : FnOk P w K mg base CX0 1 A.a__law_is A.d__law_is ["_law_actual", "_law_due"] (sp__law_is K A) := by
  refine T.F__law_is.ok sc__law_is (fun vs H Q E h => ?_) (fun cdv A' outer s H vs Q E hRm h => ?_)
  · obtain ⟨x, y, rfl, _⟩ := h
    rfl
  · obtain ⟨x, y, rfl, kq⟩ := h
    have hUn := hu_of hRm
    have s0 : Hs (fun _ => False) H (fun _ => none) [] H (fun _ => none) := Hs.start0
    refine ⟨_, (pss_cons (ps_ret (pe_and (pe_callB call_isi (by rfl) T.z_isinstance (by decide +kernel) (pa_cons (pv 0) (pa_cons (pe_bltn (v := .ty "bool") (u := .type "bool") (by rfl) T.z_bool (by decide +kernel) rfl) pa_nil))) (pe_one (pe_cmpR op_eq (pv 0) (pv 1) (nomark _))))) pss_nil), ?_⟩
    refine c_sig [some (V.bl x), some (V.bl y)] rfl ?_
    refine s_ret (vand (vbool (visi (b := true) (tu := .type "bool") (vv 0 rfl) vc (ClsV.ty "bool") (.base (.bl _)) (kit_ty (by decide +kernel)))) (fun hc => (veqb (vv 0 rfl) (vv 1 rfl)))) ?_
    exact fin kq (by exact congrArg V.bl (decide_eq_decide.mpr (by simp)))
end
end X
namespace X
open PySem PySem.Spec PyProof.Rows L2 G
section
variable {P : Program} {w : World} {K : PySem.W.Frag} {mg : Str → Option Value} {base : Heap} {A : Ads}
theorem ok__law_names (T : Txt K mg A) : FnOk P w K mg base CX0 4 A.a__law_names A.d__law_names ["_law_number"] (sp__law_names K A) := by
  have G__law_text : FnOk P w K mg base CX0 2 A.a__law_text A.d__law_text ["_law_number", "_law_count"] (sp__law_text K A) := ok__law_text T
  have G__law_is : FnOk P w K mg base CX0 1 A.a__law_is A.d__law_is ["_law_actual", "_law_due"] (sp__law_is K A) := ok__law_is T
  have G_is_name : FnOk P w K mg base CX0 3 A.a_is_name A.d_is_name ["text"] (sp_is_name K A) := ok_is_name T
  refine T.F__law_names.ok sc__law_names (fun vs H Q E h => ?_) (fun cdv A' outer s H vs Q E hRm h => ?_)
  · obtain ⟨n, rfl, _⟩ := h
    rfl
  · obtain ⟨n, rfl, h0, G0, Z0, s0, kq⟩ := h
    have hUn := hu_of hRm
    refine ⟨_, (pss_cons (ps_set (i := 1) sc__law_names.nd rfl (.inl rfl) (pe_call G__law_text (hRm.mono (by decide)) (by rfl) T.g__law_text T.F__law_text.kp T.b__law_text .nil pass0 (pa_cons (pe_op op_fdiv (pe_callTy call_int1 (by rfl) T.z_int (by decide +kernel) (pa_cons (pv 0) pa_nil)) pe_int) (pa_cons (pe_op op_mod (pe_callTy call_int1 (by rfl) T.z_int (by decide +kernel) (pa_cons (pv 0) pa_nil)) pe_int) pa_nil)))) (pss_cons (ps_set (i := 2) sc__law_names.nd rfl (.inl rfl) (pe_and (pe_cmpR op_le pe_int (pe_callB call_len_str (by rfl) T.z_len PySem.boot_len (pa_cons (pv 1) pa_nil)) (nomark _)) (pe_and (pe_cmpR op_le (pe_callB call_len_str (by rfl) T.z_len PySem.boot_len (pa_cons (pv 1) pa_nil)) pe_int (nomark _)) (pe_and (pe_cmpR op_notIn_sign pe_str (pv 1) (by with_unfolding_all rfl)) (pe_and (pe_cmpR op_ne (pv 1) pe_str (nomark _)) (pe_one (pe_cmpR op_ne (pv 1) pe_str (nomark _)))))))) (pss_cons (ps_if (pw_or (pt_not (pt_val (pe_call G__law_is (hRm.mono (by decide)) (by rfl) T.g__law_is T.F__law_is.kp T.b__law_is .nil pass0 (pa_cons (pe_call G_is_name (hRm.mono (by decide)) (by rfl) T.g_is_name T.F_is_name.kp T.b_is_name .nil pass0 (pa_cons (pv 1) pa_nil)) (pa_cons (pv 2) pa_nil))) (fun _ => rfl))) (pw_or (pt_val (pe_call G_is_name (hRm.mono (by decide)) (by rfl) T.g_is_name T.F_is_name.kp T.b_is_name .nil pass0 (pa_cons pe_str pa_nil)) (fun _ => rfl)) (pw_or (pt_val (pe_call G_is_name (hRm.mono (by decide)) (by rfl) T.g_is_name T.F_is_name.kp T.b_is_name .nil pass0 (pa_cons pe_str pa_nil)) (fun _ => rfl)) (pw_or (pt_val (pe_call G_is_name (hRm.mono (by decide)) (by rfl) T.g_is_name T.F_is_name.kp T.b_is_name .nil pass0 (pa_cons pe_str pa_nil)) (fun _ => rfl)) (pw_or1 (pt_val (pe_call G_is_name (hRm.mono (by decide)) (by rfl) T.g_is_name T.F_is_name.kp T.b_is_name .nil pass0 (pa_cons pe_str pa_nil)) (fun _ => rfl))))))).pt (pss_cons (ps_ret pe_bl) pss_nil) pss_nil) (pss_cons (ps_if (pw_or (pt_val (pe_call G_is_name (hRm.mono (by decide)) (by rfl) T.g_is_name T.F_is_name.kp T.b_is_name .nil pass0 (pa_cons pe_str pa_nil)) (fun _ => rfl)) (pw_or (pt_val (pe_call G_is_name (hRm.mono (by decide)) (by rfl) T.g_is_name T.F_is_name.kp T.b_is_name .nil pass0 (pa_cons pe_str pa_nil)) (fun _ => rfl)) (pw_or1 (pt_val (pe_call G_is_name (hRm.mono (by decide)) (by rfl) T.g_is_name T.F_is_name.kp T.b_is_name .nil pass0 (pa_cons (pe_op op_mulS pe_str pe_int) pa_nil)) (fun _ => rfl))))).pt (pss_cons ps_never pss_nil) pss_nil) (pss_cons (ps_ret (pe_and (pe_cmpR op_isBl (pe_call G_is_name (hRm.mono (by decide)) (by rfl) T.g_is_name T.F_is_name.kp T.b_is_name .nil pass0 (pa_cons (pe_op op_mulS pe_str pe_int) pa_nil)) pe_bl (nomark _)) (pe_and (pe_cmpR op_isBl (pe_call G_is_name (hRm.mono (by decide)) (by rfl) T.g_is_name T.F_is_name.kp T.b_is_name .nil pass0 (pa_cons pe_str pa_nil)) pe_bl (nomark _)) (pe_one (pe_cmpR op_isBl (pe_call G_is_name (hRm.mono (by decide)) (by rfl) T.g_is_name T.F_is_name.kp T.b_is_name .nil pass0 (pa_cons pe_str pa_nil)) pe_bl (nomark _)))))) pss_nil))))), ?_⟩
    refine c_sig [some (V.int n), none, none] rfl ?_
    refine c_set ?_
    refine c_callx ?_
    refine c_cons ?_
    obtain ⟨n1, en1⟩ : ∃ n_ : Int, n_ = (n / 31) := ⟨_, rfl⟩
    refine (vis (v1 (C := CDiv) (g := fun i j => .int (i / j)) (i := n) (j := 31) ⟨by walk_at "side", by walk_at "side"⟩ (vint (vv 0 rfl)) vc) (congrArg V.int en1.symm)) _ ?_
    refine c_cons ?_
    obtain ⟨n2, en2⟩ : ∃ n_ : Int, n_ = (n % 31) := ⟨_, rfl⟩
    have en20 : 0 ≤ n2 := by rw [en2]; exact Int.emod_nonneg _ (by walk_at "side")
    have en21 : n2 < 31 := by rw [en2]; exact Int.emod_lt_of_pos _ (by walk_at "side")
    refine (vis (v1 (C := fun _ j => 0 < j) (g := fun i j => .int (i % j)) (i := n) (j := 31) (by walk_at "side") (vint (vv 0 rfl)) vc) (congrArg V.int en2.symm)) _ ?_
    refine c_nil ?_
    obtain ⟨G4, g5, k6⟩ := s0.giv [] [] rfl
    refine ⟨n1, n2, rfl, (by walk_at "side"), (by walk_at "side"), G4, _, g5, fun t_3 H7 Z8 r9 f10 f11 => ?_⟩
    have s12 : Hs G0 H Z0 [] _ _ := k6 _ _ _ r9
    refine k_set [some (V.int n), some (V.str (sO t_3)), none] rfl ?_
    refine s_set [some (V.int n), some (V.str (sO t_3)), some (V.bl (decide ((1 ≤ (t_3.length : Int)) ∧ (((t_3.length : Int) ≤ 28) ∧ ((¬ (47 ∈ t_3)) ∧ ((t_3 ≠ ([46])) ∧ (t_3 ≠ ([46, 46]))))))))] (vand (v0 (g := fun i j => .bl (decide (i ≤ j))) vc (vlenS (a := t_3) (by walk_at "side") (vv 1 rfl))) (fun hc => (vand (v0 (g := fun i j => .bl (decide (i ≤ j))) (vlenS (a := t_3) (by walk_at "side") (vv 1 rfl)) vc) (fun hc => (vand (vninC (c := 47) (b := t_3) (vis vc (w := .str (sO ([47]))) (congrArg V.str (by decide +kernel))) (vv 1 rfl)) (fun hc => (vand (vneS (a := t_3) (b := ([46])) (vv 1 rfl) (vis vc (w := .str (sO ([46]))) (congrArg V.str (by decide +kernel)))) (fun hc => (vneS (a := t_3) (b := ([46, 46])) (vv 1 rfl) (vis vc (w := .str (sO ([46, 46]))) (congrArg V.str (by decide +kernel)))))))))))) rfl ?_
    refine c_ifS ?_
    refine c_or ?_
    refine c_not ?_
    refine c_tB ?_
    refine c_callx ?_
    refine c_cons ?_
    refine c_callx ?_
    refine c_cons ?_
    refine (vv 1 rfl) _ ?_
    refine c_nil ?_
    obtain ⟨G15, g16, k17⟩ := s12.giv [] [] rfl
    refine ⟨t_3, rfl, (by walk_at "side"), G15, _, g16, fun H18 Z19 r20 => ?_⟩
    have s21 : Hs G0 H Z0 [] _ _ := k17 _ _ _ r20
    refine c_cons ?_
    refine (vv 2 rfl) _ ?_
    refine c_nil ?_
    refine ⟨(decide (NmOk t_3)), (decide ((1 ≤ (t_3.length : Int)) ∧ (((t_3.length : Int) ≤ 28) ∧ ((¬ (47 ∈ t_3)) ∧ ((t_3 ≠ ([46])) ∧ (t_3 ≠ ([46, 46]))))))), rfl, ?_⟩
    refine ⟨_, rfl, ?_⟩
    refine c_iten (p := (decide (NmOk t_3)) = (decide ((1 ≤ (t_3.length : Int)) ∧ (((t_3.length : Int) ≤ 28) ∧ ((¬ (47 ∈ t_3)) ∧ ((t_3 ≠ ([46])) ∧ (t_3 ≠ ([46, 46])))))))) (fun h14 => ?_) (fun h14 => ?_)
    · -- no
      refine iteT ?_
      refine s_ret vc ?_
      exfalso; first | contradiction | exact h14 (nm_due (by assumption)) | walk_at "dead"
    · -- yes
      refine c_or ?_
      refine c_tB ?_
      refine c_callx ?_
      refine c_cons ?_
      refine (vis vc (w := .str (sO ([] : List Nat))) (congrArg V.str (by decide +kernel))) _ ?_
      refine c_nil ?_
      obtain ⟨G23, g24, k25⟩ := s21.giv [] [] rfl
      refine ⟨([] : List Nat), rfl, (by walk_at "side"), G23, _, g24, fun H26 Z27 r28 => ?_⟩
      have s29 : Hs G0 H Z0 [] _ _ := k25 _ _ _ r28
      refine ⟨_, rfl, ?_⟩
      refine c_ite (p := NmOk ([] : List Nat)) (fun h22 => ?_) (fun h22 => ?_)
      · -- yes
        exfalso; first | exact absurd h22 (by decide) | walk_at "dead"
      · -- no
        refine c_or ?_
        refine c_tB ?_
        refine c_callx ?_
        refine c_cons ?_
        refine (vis vc (w := .str (sO ([46]))) (congrArg V.str (by decide +kernel))) _ ?_
        refine c_nil ?_
        obtain ⟨G31, g32, k33⟩ := s29.giv [] [] rfl
        refine ⟨([46]), rfl, (by walk_at "side"), G31, _, g32, fun H34 Z35 r36 => ?_⟩
        have s37 : Hs G0 H Z0 [] _ _ := k33 _ _ _ r36
        refine ⟨_, rfl, ?_⟩
        refine c_ite (p := NmOk ([46])) (fun h30 => ?_) (fun h30 => ?_)
        · -- yes
          exfalso; first | exact absurd h30 (by decide) | walk_at "dead"
        · -- no
          refine c_or ?_
          refine c_tB ?_
          refine c_callx ?_
          refine c_cons ?_
          refine (vis vc (w := .str (sO ([46, 46]))) (congrArg V.str (by decide +kernel))) _ ?_
          refine c_nil ?_
          obtain ⟨G39, g40, k41⟩ := s37.giv [] [] rfl
          refine ⟨([46, 46]), rfl, (by walk_at "side"), G39, _, g40, fun H42 Z43 r44 => ?_⟩
          have s45 : Hs G0 H Z0 [] _ _ := k41 _ _ _ r44
          refine ⟨_, rfl, ?_⟩
          refine c_ite (p := NmOk ([46, 46])) (fun h38 => ?_) (fun h38 => ?_)
          · -- yes
            exfalso; first | exact absurd h38 (by decide) | walk_at "dead"
          · -- no
            refine c_tB ?_
            refine c_callx ?_
            refine c_cons ?_
            refine (vis vc (w := .str (sO ([97, 47, 98]))) (congrArg V.str (by decide +kernel))) _ ?_
            refine c_nil ?_
            obtain ⟨G47, g48, k49⟩ := s45.giv [] [] rfl
            refine ⟨([97, 47, 98]), rfl, (by walk_at "side"), G47, _, g48, fun H50 Z51 r52 => ?_⟩
            have s53 : Hs G0 H Z0 [] _ _ := k49 _ _ _ r52
            refine ⟨_, rfl, ?_⟩
            refine c_ite (p := NmOk ([97, 47, 98])) (fun h46 => ?_) (fun h46 => ?_)
            · -- yes
              exfalso; first | exact absurd h46 (by decide) | walk_at "dead"
            · -- no
              refine s_nxs ?_
              refine c_ifS ?_
              refine c_or ?_
              refine c_tB ?_
              refine c_callx ?_
              refine c_cons ?_
              refine (vis vc (w := .str (sO ([97, 10, 98]))) (congrArg V.str (by decide +kernel))) _ ?_
              refine c_nil ?_
              obtain ⟨G56, g57, k58⟩ := s53.giv [] [] rfl
              refine ⟨([97, 10, 98]), rfl, (by walk_at "side"), G56, _, g57, fun H59 Z60 r61 => ?_⟩
              have s62 : Hs G0 H Z0 [] _ _ := k58 _ _ _ r61
              refine ⟨_, rfl, ?_⟩
              refine c_ite (p := NmOk ([97, 10, 98])) (fun h55 => ?_) (fun h55 => ?_)
              · -- yes
                exfalso; first | exact absurd h55 (by decide) | walk_at "dead"
              · -- no
                refine c_or ?_
                refine c_tB ?_
                refine c_callx ?_
                refine c_cons ?_
                refine (vis vc (w := .str (sO ([47]))) (congrArg V.str (by decide +kernel))) _ ?_
                refine c_nil ?_
                obtain ⟨G64, g65, k66⟩ := s62.giv [] [] rfl
                refine ⟨([47]), rfl, (by walk_at "side"), G64, _, g65, fun H67 Z68 r69 => ?_⟩
                have s70 : Hs G0 H Z0 [] _ _ := k66 _ _ _ r69
                refine ⟨_, rfl, ?_⟩
                refine c_ite (p := NmOk ([47])) (fun h63 => ?_) (fun h63 => ?_)
                · -- yes
                  exfalso; first | exact absurd h63 (by decide) | walk_at "dead"
                · -- no
                  refine c_tB ?_
                  refine c_callx ?_
                  refine c_cons ?_
                  refine (vmulS (a := ([97])) (n := 29) (b := ([97, 97, 97, 97, 97, 97, 97, 97, 97, 97, 97, 97, 97, 97, 97, 97, 97, 97, 97, 97, 97, 97, 97, 97, 97, 97, 97, 97, 97])) (by unfold PySem.MulOk; decide +kernel) (by decide +kernel) (vis vc (w := .str (sO ([97]))) (congrArg V.str (by decide +kernel))) vc) _ ?_
                  refine c_nil ?_
                  obtain ⟨G72, g73, k74⟩ := s70.giv [] [] rfl
                  refine ⟨([97, 97, 97, 97, 97, 97, 97, 97, 97, 97, 97, 97, 97, 97, 97, 97, 97, 97, 97, 97, 97, 97, 97, 97, 97, 97, 97, 97, 97]), rfl, (by walk_at "side"), G72, _, g73, fun H75 Z76 r77 => ?_⟩
                  have s78 : Hs G0 H Z0 [] _ _ := k74 _ _ _ r77
                  refine ⟨_, rfl, ?_⟩
                  refine c_ite (p := NmOk ([97, 97, 97, 97, 97, 97, 97, 97, 97, 97, 97, 97, 97, 97, 97, 97, 97, 97, 97, 97, 97, 97, 97, 97, 97, 97, 97, 97, 97])) (fun h71 => ?_) (fun h71 => ?_)
                  · -- yes
                    exfalso; first | exact absurd h71 (by decide) | walk_at "dead"
                  · -- no
                    refine s_nxs ?_
                    refine c_ret ?_
                    refine c_andW (pP := (decide ((decide (NmOk ([97, 97, 97, 97, 97, 97, 97, 97, 97, 97, 97, 97, 97, 97, 97, 97, 97, 97, 97, 97, 97, 97, 97, 97, 97, 97, 97, 97]))) = true)) = true) (qQ := ((decide ((decide (NmOk ([46, 46, 46]))) = true)) = true) ∧ ((decide ((decide (NmOk ([32]))) = true)) = true)) s78 (fun Q' kQ => ?_) (fun H80 Z82 s81 h79 Q' kQ => ?_) (fun H83 Z85 s84 => ?_)
                    · -- the first part
                      refine c_op ?_
                      refine c_callx ?_
                      refine c_cons ?_
                      refine (vmulS (a := ([97])) (n := 28) (b := ([97, 97, 97, 97, 97, 97, 97, 97, 97, 97, 97, 97, 97, 97, 97, 97, 97, 97, 97, 97, 97, 97, 97, 97, 97, 97, 97, 97])) (by unfold PySem.MulOk; decide +kernel) (by decide +kernel) (vis vc (w := .str (sO ([97]))) (congrArg V.str (by decide +kernel))) vc) _ ?_
                      refine c_nil ?_
                      obtain ⟨G86, g87, k88⟩ := s78.giv [] [] rfl
                      refine ⟨([97, 97, 97, 97, 97, 97, 97, 97, 97, 97, 97, 97, 97, 97, 97, 97, 97, 97, 97, 97, 97, 97, 97, 97, 97, 97, 97, 97]), rfl, (by walk_at "side"), G86, _, g87, fun H89 Z90 r91 => ?_⟩
                      have s92 : Hs G0 H Z0 [] _ _ := k88 _ _ _ r91
                      refine vc _ ?_
                      refine ⟨_, _, rfl, rfl, ?_⟩
                      exact kQb2 _ kQ _ _ (s92.pick [] (by decide) rfl)
                    · -- the second part
                      refine c_andW (pP := (decide ((decide (NmOk ([46, 46, 46]))) = true)) = true) (qQ := (decide ((decide (NmOk ([32]))) = true)) = true) s81 (fun Q' kQ => ?_) (fun H94 Z96 s95 h93 Q' kQ => ?_) (fun H97 Z99 s98 => ?_)
                      · -- the first part
                        refine c_op ?_
                        refine c_callx ?_
                        refine c_cons ?_
                        refine (vis vc (w := .str (sO ([46, 46, 46]))) (congrArg V.str (by decide +kernel))) _ ?_
                        refine c_nil ?_
                        obtain ⟨G100, g101, k102⟩ := s81.giv [] [] rfl
                        refine ⟨([46, 46, 46]), rfl, (by walk_at "side"), G100, _, g101, fun H103 Z104 r105 => ?_⟩
                        have s106 : Hs G0 H Z0 [] _ _ := k102 _ _ _ r105
                        refine vc _ ?_
                        refine ⟨_, _, rfl, rfl, ?_⟩
                        exact kQb2 _ kQ _ _ (s106.pick [] (by decide) rfl)
                      · -- the second part
                        refine c_op ?_
                        refine c_callx ?_
                        refine c_cons ?_
                        refine (vis vc (w := .str (sO ([32]))) (congrArg V.str (by decide +kernel))) _ ?_
                        refine c_nil ?_
                        obtain ⟨G107, g108, k109⟩ := s95.giv [] [] rfl
                        refine ⟨([32]), rfl, (by walk_at "side"), G107, _, g108, fun H110 Z111 r112 => ?_⟩
                        have s113 : Hs G0 H Z0 [] _ _ := k109 _ _ _ r112
                        refine vc _ ?_
                        refine ⟨_, _, rfl, rfl, ?_⟩
                        exact kQb2 _ kQ _ _ (s113.pick [] (by decide) rfl)
                      · -- on
                        exact kQ _ _ (s98.pick [] (by decide) rfl)
                    · -- on
                      have s114 : Hs G0 H Z0 [] _ _ := (s84.pick [] (by decide) (by walk_at "finL"))
                      exact fin (kq  _ _ s114 ) (by first | rfl | decide | (simp; decide))
end
end X
namespace X
open PySem PySem.Spec PyProof.Rows L2 G
section
variable {P : Program} {w : World} {K : PySem.W.Frag} {mg : Str → Option Value} {base : Heap} {A : Ads}
theorem ok_law (T : Txt K mg A) : FnOk P w K mg base CX0 6 A.a_law A.d_law ["_law_script"] (sp_law K A) := by
  have G__law_name : FnOk P w K mg base CX0 3 A.a__law_name A.d__law_name ["_law_number"] (sp__law_name K A) := ok__law_name T
  have G__law_row : FnOk P w K mg base CX0 1 A.a__law_row A.d__law_row ["_law_script", "_law_k"] (sp__law_row K A) := ok__law_row T
  have G_encode_entry : FnOk P w K mg base CX0 2 A.a_encode_entry A.d_encode_entry ["name", "number"] (sp_encode_entry K A) := ok_encode_entry T
  have G__law_octets : FnOk P w K mg base CX0 1 A.a__law_octets A.d__law_octets ["_law_name_here", "_law_number"] (sp__law_octets K A) := ok__law_octets T
  have G_is_name : FnOk P w K mg base CX0 3 A.a_is_name A.d_is_name ["text"] (sp_is_name K A) := ok_is_name T
  have G_decode_entry : FnOk P w K mg base CX0 4 A.a_decode_entry A.d_decode_entry ["octets"] (sp_decode_entry K A) := ok_decode_entry T
  have G__law_reads : FnOk P w K mg base CX0 5 A.a__law_reads A.d__law_reads ["_law_octets_here"] (sp__law_reads K A) := ok__law_reads T
  have G__law_names : FnOk P w K mg base CX0 4 A.a__law_names A.d__law_names ["_law_number"] (sp__law_names K A) := ok__law_names T
  refine T.F_law.ok sc_law (fun vs H Q E h => ?_) (fun cdv A' outer s H vs Q E hRm h => ?_)
  · obtain ⟨a, ns, rfl, _⟩ := h
    rfl
  · obtain ⟨a, ns, rfl, hS, hlen, kq⟩ := h
    have hUn := hu_of hRm
    obtain ⟨Z0, s0⟩ := Hs.startS hS
    refine ⟨_, (pss_cons (ps_if (pt_cmpR (op_neD hRm.units) (pe_lst (pa_cons (pe_glob (v := .int 32) (by rfl) T.k_ENTRY_OCTETS (by exact ⟨_, rfl⟩)) (pa_cons (pe_glob (v := .int 28) (by rfl) T.k_MOST_SIGNS (by exact ⟨_, rfl⟩)) pa_nil))) (pe_lst (pa_cons pe_int (pa_cons pe_int pa_nil))) (nomark _)) (pss_cons ps_never pss_nil) pss_nil) (pss_cons (ps_set (i := 1) sc_law.nd rfl (.inl rfl) (pe_call G__law_name (hRm.mono (by decide)) (by rfl) T.g__law_name T.F__law_name.kp T.b__law_name .nil pass0 (pa_cons (pe_call G__law_row (hRm.mono (by decide)) (by rfl) T.g__law_row T.F__law_row.kp T.b__law_row .nil pass0 (pa_cons (pv 0) (pa_cons pe_int pa_nil))) pa_nil))) (pss_cons (ps_set (i := 2) sc_law.nd rfl (.inr rfl) (pe_callTy call_int1 (by rfl) T.z_int (by decide +kernel) (pa_cons (pe_call G__law_row (hRm.mono (by decide)) (by rfl) T.g__law_row T.F__law_row.kp T.b__law_row .nil pass0 (pa_cons (pv 0) (pa_cons pe_int pa_nil))) pa_nil))) (pss_cons (ps_set (i := 3) sc_law.nd rfl (.inl rfl) (pe_ix ix_list (pe_lst (pa_cons pe_int (pa_cons pe_int (pa_cons pe_int (pa_cons pe_int (pa_cons (pe_op op_add pe_int (pe_op op_mod (pe_op op_fdiv (pv 2) pe_int) pe_int)) pa_nil)))))) (pe_op op_mod (pv 2) pe_int) (fun _ _ => rfl))) (pss_cons (ps_set (i := 4) sc_law.nd rfl (.inl rfl) (pe_call G_encode_entry (hRm.mono (by decide)) (by rfl) T.g_encode_entry T.F_encode_entry.kp T.b_encode_entry .nil pass0 (pa_cons (pv 1) (pa_cons (pv 3) pa_nil)))) (pss_cons (ps_if (pw_or (pt_not (pt_val (pe_callB call_isi (by rfl) T.z_isinstance (by decide +kernel) (pa_cons (pv 4) (pa_cons (pe_bltn (v := .ty "list") (u := .type "list") (by rfl) T.z_list (by decide +kernel) rfl) pa_nil))) (fun _ => rfl))) (pw_or (pt_cmpR (op_neD hRm.units) (pv 4) (pe_call G__law_octets (hRm.mono (by decide)) (by rfl) T.g__law_octets T.F__law_octets.kp T.b__law_octets .nil pass0 (pa_cons (pv 1) (pa_cons (pv 3) pa_nil))) (nomark _)) (pw_or1 (pt_cmpR op_notBl (pe_call G_is_name (hRm.mono (by decide)) (by rfl) T.g_is_name T.F_is_name.kp T.b_is_name .nil pass0 (pa_cons (pv 1) pa_nil)) pe_bl (nomark _))))).pt (pss_cons (ps_ret pe_bl) pss_nil) pss_nil) (pss_cons (ps_if (pt_cmpR (op_neD hRm.units) (pe_call G_decode_entry (hRm.mono (by decide)) (by rfl) T.g_decode_entry T.F_decode_entry.kp T.b_decode_entry .nil pass0 (pa_cons (pv 4) pa_nil)) (pe_tup (pa_cons (pv 1) (pa_cons (pv 3) pa_nil))) (nomark _)) (pss_cons (ps_ret pe_bl) pss_nil) pss_nil) (pss_cons (ps_set (i := 2) sc_law.nd rfl (.inr rfl) (pe_callTy call_int1 (by rfl) T.z_int (by decide +kernel) (pa_cons (pe_call G__law_row (hRm.mono (by decide)) (by rfl) T.g__law_row T.F__law_row.kp T.b__law_row .nil pass0 (pa_cons (pv 0) (pa_cons pe_int pa_nil))) pa_nil))) (pss_cons (ps_set (i := 5) sc_law.nd rfl (.inl rfl) (pe_callTy call_list_of (by rfl) T.z_list (by decide +kernel) (pa_cons (pv 4) pa_nil))) (pss_cons (ps_set (i := 6) sc_law.nd rfl (.inl rfl) (pe_ix ix_list (pe_lst (pa_cons (pe_op op_mod (pe_op op_fdiv (pv 2) pe_int) pe_int) (pa_cons pe_int (pa_cons (pe_op op_add pe_int (pe_callB call_len_str (by rfl) T.z_len PySem.boot_len (pa_cons (pv 1) pa_nil))) (pa_cons (pe_op op_mod (pe_op op_fdiv (pv 2) pe_int) pe_int) (pa_cons (pe_callB (call_min2 rfl) (by rfl) T.z_min (by decide +kernel) (pa_cons pe_int (pa_cons (pe_op op_add pe_int (pe_callB call_len_str (by rfl) T.z_len PySem.boot_len (pa_cons (pv 1) pa_nil))) pa_nil))) pa_nil)))))) (pe_op op_mod (pv 2) pe_int) (fun _ _ => rfl))) (pss_cons (ps_asg (pe_ix ix_list (pe_lst (pa_cons pe_int (pa_cons pe_int (pa_cons pe_int (pa_cons pe_int (pa_cons pe_int (pa_cons pe_int (pa_cons pe_int (pa_cons pe_int (pa_cons pe_int (pa_cons pe_int (pa_cons pe_int (pa_cons (pe_op op_mod (pe_op op_fdiv (pv 2) pe_int) pe_int) pa_nil))))))))))))) (pe_op op_mod (pe_op op_fdiv (pv 2) pe_int) pe_int) (fun _ _ => rfl)) (pg_sub (pv 5) (pe_op op_mod (pv 6) pe_int) set_list)) (pss_cons (ps_if (pw_or (pt_not (pt_val (pe_call G__law_reads (hRm.mono (by decide)) (by rfl) T.g__law_reads T.F__law_reads.kp T.b__law_reads .nil pass0 (pa_cons (pv 4) pa_nil)) (fun _ => rfl))) (pw_or (pt_not (pt_val (pe_call G__law_reads (hRm.mono (by decide)) (by rfl) T.g__law_reads T.F__law_reads.kp T.b__law_reads .nil pass0 (pa_cons (pv 5) pa_nil)) (fun _ => rfl))) (pw_or1 (pt_not (pt_val (pe_call G__law_reads (hRm.mono (by decide)) (by rfl) T.g__law_reads T.F__law_reads.kp T.b__law_reads .nil pass0 (pa_cons (pe_op op_rep (pe_lst (pa_cons pe_int pa_nil)) pe_int) pa_nil)) (fun _ => rfl)))))).pt (pss_cons ps_never pss_nil) pss_nil) (pss_cons (ps_asg (pe_op op_mod (pe_op op_fdiv (pv 2) pe_int) pe_int) (pg_sub (pv 5) (pe_op op_mod (pe_op op_fdiv (pv 2) pe_int) pe_int) set_list)) (pss_cons (ps_if (pt_not (pt_val (pe_call G__law_reads (hRm.mono (by decide)) (by rfl) T.g__law_reads T.F__law_reads.kp T.b__law_reads .nil pass0 (pa_cons (pv 5) pa_nil)) (fun _ => rfl))) (pss_cons ps_never pss_nil) pss_nil) (pss_cons (ps_set (i := 5) sc_law.nd rfl (.inl rfl) (pe_op op_cat (pe_lst (pa_cons (pe_op op_mod (pv 2) pe_int) (pa_cons (pe_op op_mod (pe_op op_fdiv (pv 2) pe_int) pe_int) (pa_cons (pe_op op_mod (pe_op op_fdiv (pv 2) pe_int) pe_int) pa_nil)))) (pe_lc (own := [("_law_k", 7)]) (g := gName 7) (tt := tYes) rfl sc_law.nd (pi_range1 rfl T.z_range (pa_cons pe_int pa_nil)) (blkOk_by (N := ["_law_script", "_law_name_here", "_law_number", "_law_target", "_law_octets_here", "_law_row_here", "_law_at", "_law_k"]) (sc := defScope st_law) (by decide +kernel)) (fun _ _ _ _ _ => pg_name (i := 7) sc_law.nd rfl (Or.inl rfl)) (fun _ _ _ _ _ => pts_nil) (fun _ _ _ _ _ => (pe_op op_add pe_int (pe_op op_mod (pe_op op_fdiv (pv 2) (pe_op op_add pe_int (pv 7))) pe_int)))))) (pss_cons (ps_for PassesOwn.never rfl (pi_range2 rfl T.z_range (pa_cons (pe_ix ix_list (pv 5) pe_int (fun _ _ => rfl)) (pa_cons pe_int pa_nil))) (pg_name (i := 7) sc_law.nd rfl (.inl rfl)) (pss_cons (ps_asg pe_int (pg_sub (pv 5) (pe_op op_add pe_int (pv 7)) set_list)) pss_nil)) (pss_cons (ps_if (pt_cmpR op_eq (pe_op op_mod (pe_op op_fdiv (pv 2) pe_int) pe_int) pe_int (nomark _)) (pss_cons (ps_asg (pe_op op_add pe_int (pe_op op_mod (pe_op op_fdiv (pv 2) pe_int) pe_int)) (pg_sub (pv 5) pe_int set_list)) (pss_cons (ps_asg (pe_op op_cat (pe_lst (pa_cons pe_int (pa_cons (pe_op op_mul pe_int (pe_op op_sub (pe_ix ix_list (pv 5) pe_int (fun _ _ => rfl)) pe_int)) pa_nil))) (pe_op op_rep (pe_lst (pa_cons pe_int pa_nil)) pe_int)) (pg_tail (pv 5) pe_int)) pss_nil)) pss_nil) (pss_cons (ps_ret (pe_and (pe_call G__law_reads (hRm.mono (by decide)) (by rfl) T.g__law_reads T.F__law_reads.kp T.b__law_reads .nil pass0 (pa_cons (pv 5) pa_nil)) (pe_one (pe_call G__law_names (hRm.mono (by decide)) (by rfl) T.g__law_names T.F__law_names.kp T.b__law_names .nil pass0 (pa_cons (pe_call G__law_row (hRm.mono (by decide)) (by rfl) T.g__law_row T.F__law_row.kp T.b__law_row .nil pass0 (pa_cons (pv 0) (pa_cons pe_int pa_nil))) pa_nil))))) pss_nil)))))))))))))))))), ?_⟩
    refine c_sig [some (V.ref a), none, none, none, none, none, none, none] rfl ?_
    refine c_ifS ?_
    refine c_test ?_
    refine c_op ?_
    refine c_lst ?_
    refine c_cons ?_
    refine vc _ ?_
    refine c_cons ?_
    refine vc _ ?_
    refine c_nil ?_
    refine ⟨sz1 (by show 2 ≤ 1000000; decide), fun p3 np3 => ?_⟩
    have s4 : Hs (fun _ => False) H Z0 [c p3 (.lst ([V.int 32, V.int 28])), sq K a (ns.map V.int)] _ _ := s0.new np3 (.lst ([V.int 32, V.int 28]))
    refine c_lst ?_
    refine c_cons ?_
    refine vc _ ?_
    refine c_cons ?_
    refine vc _ ?_
    refine c_nil ?_
    refine ⟨sz1 (by show 2 ≤ 1000000; decide), fun p5 np5 => ?_⟩
    have s6 : Hs (fun _ => False) H Z0 [c p5 (.lst ([V.int 32, V.int 28])), c p3 (.lst ([V.int 32, V.int 28])), sq K a (ns.map V.int)] _ _ := s4.new np5 (.lst ([V.int 32, V.int 28]))
    refine ⟨.list (([32, 28] : List Int).map PyData.int), .list (([32, 28] : List Int).map PyData.int), (.lst (SqL.of (s6.mem 1 rfl)) (dps_ints ([32, 28] : List Int))), (.lst (SqL.of (s6.mem 0 rfl)) (dps_ints ([32, 28] : List Int))), (by walk_at "shp"), (by walk_at "shp"), ?_⟩
    rw [show PyData.eqv (.list (([32, 28] : List Int).map PyData.int)) (.list (([32, 28] : List Int).map PyData.int)) = true from SeqAt.eqv_refl _ (SeqAt.canLay_of_shaped (by walk_at "shp"))]
    refine ⟨_, rfl, ?_⟩
    refine c_iteB (fun h2 => ?_) (fun h2 => ?_)
    · -- yes
      exfalso; first | exact absurd h2 (by decide) | walk_at "dead"
    · -- no
      refine s_nxs ?_
      refine c_set ?_
      refine c_callx ?_
      refine c_cons ?_
      obtain ⟨n7, en7⟩ : ∃ n_ : Int, n_ = (rowG ns (0 : Int)) := ⟨_, rfl⟩
      have en70 : 0 ≤ n7 := by rw [en7]; exact rowG_nn _ _
      refine (vis (vcall (va (vv 0 rfl) (va vc va0)) (fun _ kC => ⟨a, ns, 0, rfl, (by walk_at "side"), s6.giv1 [2] rfl, kC⟩)) (congrArg V.int en7.symm)) _ ?_
      refine c_nil ?_
      obtain ⟨G9, g10, k11⟩ := s6.giv [] [0, 1, 2] rfl
      refine ⟨n7, rfl, (by walk_at "side"), G9, _, g10, fun t_8 H12 Z13 r14 f15 => ?_⟩
      have s16 : Hs (fun _ => False) H Z0 [c p5 (.lst ([V.int 32, V.int 28])), c p3 (.lst ([V.int 32, V.int 28])), sq K a (ns.map V.int)] _ _ := k11 _ _ _ r14
      refine k_set [some (V.ref a), some (V.str (sO t_8)), none, none, none, none, none, none] rfl ?_
      have hnm := f15
      have hnl := hnm.1.2
      obtain ⟨n17, en17⟩ : ∃ n_ : Int, n_ = (rowG ns (1 : Int)) := ⟨_, rfl⟩
      have en170 : 0 ≤ n17 := by rw [en17]; exact rowG_nn _ _
      refine s_set [some (V.ref a), some (V.str (sO t_8)), some (V.int n17), none, none, none, none, none] (vis (vint (vcall (va (vv 0 rfl) (va vc va0)) (fun _ kC => ⟨a, ns, 1, rfl, (by walk_at "side"), s16.giv1 [2] rfl, kC⟩))) (congrArg V.int en17.symm)) rfl ?_
      refine c_set ?_
      refine c_op ?_
      refine c_lst ?_
      refine c_cons ?_
      refine vc _ ?_
      refine c_cons ?_
      refine vc _ ?_
      refine c_cons ?_
      refine vc _ ?_
      refine c_cons ?_
      refine vc _ ?_
      refine c_cons ?_
      obtain ⟨n18, en18⟩ : ∃ n_ : Int, n_ = (1 + ((n17 / 5) % 65535)) := ⟨_, rfl⟩
      refine (vis (v0 (g := fun i j => .int (i + j)) vc (v1 (C := fun _ j => 0 < j) (g := fun i j => .int (i % j)) (i := n17 / 5) (j := 65535) (by walk_at "side") (v1 (C := CDiv) (g := fun i j => .int (i / j)) (i := n17) (j := 5) ⟨by walk_at "side", by walk_at "side"⟩ (vv 2 rfl) vc) vc)) (congrArg V.int en18.symm)) _ ?_
      refine c_nil ?_
      refine ⟨sz1 (by show 5 ≤ 1000000; decide), fun p19 np19 => ?_⟩
      have s20 : Hs (fun _ => False) H Z0 [c p19 (.lst ([V.int 1, V.int 255, V.int 256, V.int 65535, V.int n18])), c p5 (.lst ([V.int 32, V.int 28])), c p3 (.lst ([V.int 32, V.int 28])), sq K a (ns.map V.int)] _ _ := s16.new np19 (.lst ([V.int 1, V.int 255, V.int 256, V.int 65535, V.int n18]))
      obtain ⟨n21, en21⟩ : ∃ n_ : Int, n_ = (n17 % 5) := ⟨_, rfl⟩
      have en210 : 0 ≤ n21 := by rw [en21]; exact Int.emod_nonneg _ (by walk_at "side")
      have en211 : n21 < 5 := by rw [en21]; exact Int.emod_lt_of_pos _ (by walk_at "side")
      refine (vis (v1 (C := fun _ j => 0 < j) (g := fun i j => .int (i % j)) (i := n17) (j := 5) (by walk_at "side") (vv 2 rfl) vc) (congrArg V.int en21.symm)) _ ?_
      refine ⟨_, (([1, 255, 256, 65535, n18]).map V.int), _, _, rfl, rfl, (SqL.of (s20.mem 0 rfl)), (at_gi (by walk_at "side") (by walk_at "side")), ?_⟩
      obtain ⟨n22, en22⟩ : ∃ n_ : Int, n_ = (gi ([1, 255, 256, 65535, n18]) n21) := ⟨_, rfl⟩
      have en220 : n22 = 1 ∨ n22 = 255 ∨ n22 = 256 ∨ n22 = 65535 ∨ n22 = n18 := by
        have h := gi_mem (ns := ([1, 255, 256, 65535, n18])) (i := n21) (by walk_at "side") (by walk_at "side")
        rw [← en22] at h
        simpa only [List.mem_cons, List.not_mem_nil, or_false] using h
      refine k_setv (.int n22) (congrArg V.int en22.symm) ?_
      refine k_set [some (V.ref a), some (V.str (sO t_8)), some (V.int n17), some (V.int n22), none, none, none, none] rfl ?_
      refine c_set ?_
      refine c_callx ?_
      refine c_cons ?_
      refine (vv 1 rfl) _ ?_
      refine c_cons ?_
      refine (vv 3 rfl) _ ?_
      refine c_nil ?_
      obtain ⟨G24, g25, k26⟩ := s20.giv [] [0, 1, 2, 3] rfl
      refine ⟨t_8, n22, rfl, (by first | assumption | walk_at "len32" | omega), G24, _, g25, fun p_23 H27 Z28 r29 => ?_⟩
      have s30 : Hs (fun _ => False) H Z0 [c p_23 (.lst ((encE t_8 n22).map V.int)), c p19 (.lst ([V.int 1, V.int 255, V.int 256, V.int 65535, V.int n18])), c p5 (.lst ([V.int 32, V.int 28])), c p3 (.lst ([V.int 32, V.int 28])), sq K a (ns.map V.int)] _ _ := k26 _ _ _ r29
      refine k_set [some (V.ref a), some (V.str (sO t_8)), some (V.int n17), some (V.int n22), some (V.ref p_23), none, none, none] rfl ?_
      refine c_ifS ?_
      refine c_or ?_
      refine c_not ?_
      refine (vB (vbool (visi (b := true) (tu := .type "list") (vv 4 rfl) vc (ClsV.ty "list") (.base (.lst (s30.mem 0 rfl))) (kit_ty (by decide +kernel))))) _ ?_
      refine c_iten (p := true = true) (fun h32 => ?_) (fun h32 => ?_)
      · -- no
        exfalso; first | exact absurd h32 (by decide) | walk_at "dead"
      · -- yes
        refine c_or ?_
        refine c_test ?_
        refine c_op ?_
        refine (vv 4 rfl) _ ?_
        refine c_callx ?_
        refine c_cons ?_
        refine (vv 1 rfl) _ ?_
        refine c_cons ?_
        refine (vv 3 rfl) _ ?_
        refine c_nil ?_
        obtain ⟨G35, g36, k37⟩ := s30.giv [] [0, 1, 2, 3, 4] rfl
        refine ⟨t_8, n22, rfl, (by first | assumption | walk_at "len32" | omega), G35, _, g36, fun p_34 H38 Z39 r40 => ?_⟩
        have s41 : Hs (fun _ => False) H Z0 [c p_34 (.lst ((octL t_8 n22).map V.int)), c p_23 (.lst ((encE t_8 n22).map V.int)), c p19 (.lst ([V.int 1, V.int 255, V.int 256, V.int 65535, V.int n18])), c p5 (.lst ([V.int 32, V.int 28])), c p3 (.lst ([V.int 32, V.int 28])), sq K a (ns.map V.int)] _ _ := k37 _ _ _ r40
        refine ⟨.list ((encE t_8 n22).map PyData.int), .list ((octL t_8 n22).map PyData.int), (.lst (SqL.of (s41.mem 1 rfl)) (dps_ints (encE t_8 n22))), (.lst (SqL.of (s41.mem 0 rfl)) (dps_ints (octL t_8 n22))), (by walk_at "shp"), (by walk_at "shp"), ?_⟩
        rw [eqvL_ints, dec_not]
        refine ⟨_, rfl, ?_⟩
        refine c_ite (p := (encE t_8 n22) ≠ (octL t_8 n22)) (fun h33 => ?_) (fun h33 => ?_)
        · -- yes
          refine iteT ?_
          refine s_ret vc ?_
          exfalso; first | contradiction | exact h33 (octL_eq (by omega) (by omega)).symm | exact h33 (dec_enc hnm (by omega) (by omega)) | walk_at "dead"
        · -- no
          refine c_test ?_
          refine c_op ?_
          refine c_callx ?_
          refine c_cons ?_
          refine (vv 1 rfl) _ ?_
          refine c_nil ?_
          obtain ⟨G43, g44, k45⟩ := s41.giv [] [0, 1, 2, 3, 4, 5] rfl
          refine ⟨t_8, rfl, (by first | assumption | walk_at "len32" | omega), G43, _, g44, fun H46 Z47 r48 => ?_⟩
          have s49 : Hs (fun _ => False) H Z0 [c p_34 (.lst ((octL t_8 n22).map V.int)), c p_23 (.lst ((encE t_8 n22).map V.int)), c p19 (.lst ([V.int 1, V.int 255, V.int 256, V.int 65535, V.int n18])), c p5 (.lst ([V.int 32, V.int 28])), c p3 (.lst ([V.int 32, V.int 28])), sq K a (ns.map V.int)] _ _ := k45 _ _ _ r48
          refine vc _ ?_
          refine ⟨_, _, rfl, rfl, ?_⟩
          refine ⟨_, rfl, ?_⟩
          refine c_iteB (fun h42 => ?_) (fun h42 => ?_)
          · -- yes
            refine s_ret vc ?_
            exfalso; first | contradiction | exact h42 (octL_eq (by omega) (by omega)).symm | exact h42 (dec_enc hnm (by omega) (by omega)) | walk_at "dead"
          · -- no
            refine s_nxs ?_
            refine c_ifS ?_
            refine c_test ?_
            refine c_op ?_
            refine c_callx ?_
            refine c_cons ?_
            refine (vv 4 rfl) _ ?_
            refine c_nil ?_
            obtain ⟨G53, g54, k55⟩ := s49.giv [1] [0, 2, 3, 4, 5] rfl
            refine .inl ⟨p_23, (encE t_8 n22), rfl, (by first | assumption | walk_at "len32" | omega), (by walk_at "bd"), (by exact (enc_ent hnm (by omega) (by omega)).1), G53, _, g54, fun p_52 H56 Z57 r58 => ?_⟩
            have s59 : Hs (fun _ => False) H Z0 [fz p_52 (.tup ([V.str (sO (nmE (encE t_8 n22))), V.int (valN (cutI (encE t_8 n22) 0 2))])), c p_23 (.lst ((encE t_8 n22).map V.int)), c p_34 (.lst ((octL t_8 n22).map V.int)), c p19 (.lst ([V.int 1, V.int 255, V.int 256, V.int 65535, V.int n18])), c p5 (.lst ([V.int 32, V.int 28])), c p3 (.lst ([V.int 32, V.int 28])), sq K a (ns.map V.int)] _ _ := k55 _ _ _ r58
            refine c_tup ?_
            refine c_cons ?_
            refine (vv 1 rfl) _ ?_
            refine c_cons ?_
            refine (vv 3 rfl) _ ?_
            refine c_nil ?_
            refine ⟨sz1 (by show 2 ≤ 1000000; decide), fun p60 np60 => ?_⟩
            have s61 : Hs (fun _ => False) H Z0 [fz p60 (.tup ([V.str (sO t_8), V.int n22])), fz p_52 (.tup ([V.str (sO (nmE (encE t_8 n22))), V.int (valN (cutI (encE t_8 n22) 0 2))])), c p_23 (.lst ((encE t_8 n22).map V.int)), c p_34 (.lst ((octL t_8 n22).map V.int)), c p19 (.lst ([V.int 1, V.int 255, V.int 256, V.int 65535, V.int n18])), c p5 (.lst ([V.int 32, V.int 28])), c p3 (.lst ([V.int 32, V.int 28])), sq K a (ns.map V.int)] _ _ := s59.newz np60 (.tup ([V.str (sO t_8), V.int n22]))
            refine ⟨.tuple [.str (sO (nmE (encE t_8 n22))), .int (valN (cutI (encE t_8 n22) 0 2))], .tuple [.str (sO t_8), .int n22], (.tup (SqT.of (s61.fzm 1 rfl)) (.cons (.str _) (.cons (.int _) .nil))), (.tup (SqT.of (s61.fzm 0 rfl)) (.cons (.str _) (.cons (.int _) .nil))), (by walk_at "shp"), (by walk_at "shp"), ?_⟩
            rw [eqv_dec (n := 9) (m := 9) (a := .tuple [.str (sO (nmE (encE t_8 n22))), .int (valN (cutI (encE t_8 n22) 0 2))]) (b := .tuple [.str (sO t_8), .int n22]) (by walk_at "dok") (by walk_at "dok"), dec_not]
            refine ⟨_, rfl, ?_⟩
            refine c_ite (p := (.tuple [.str (sO (nmE (encE t_8 n22))), .int (valN (cutI (encE t_8 n22) 0 2))] : PyData) ≠ .tuple [.str (sO t_8), .int n22]) (fun h51 => ?_) (fun h51 => ?_)
            · -- yes
              refine s_ret vc ?_
              exfalso; first | contradiction | exact h51 (octL_eq (by omega) (by omega)).symm | exact h51 (dec_enc hnm (by omega) (by omega)) | walk_at "dead"
            · -- no
              refine s_nxs ?_
              obtain ⟨n62, en62⟩ : ∃ n_ : Int, n_ = (rowG ns (2 : Int)) := ⟨_, rfl⟩
              have en620 : 0 ≤ n62 := by rw [en62]; exact rowG_nn _ _
              refine s_set [some (V.ref a), some (V.str (sO t_8)), some (V.int n62), some (V.int n22), some (V.ref p_23), none, none, none] (vis (vint (vcall (va (vv 0 rfl) (va vc va0)) (fun _ kC => ⟨a, ns, 2, rfl, (by walk_at "side"), s61.giv1 [7] rfl, kC⟩))) (congrArg V.int en62.symm)) rfl ?_
              have henl : ((encE t_8 n22)).length = 32 := enc_len hnl
              refine c_set ?_
              refine c_cb ?_
              refine c_cons ?_
              refine (vv 4 rfl) _ ?_
              refine c_nil ?_
              refine ⟨_, _, rfl, .inl (SqL.of (s61.mem 2 rfl)), fun p63 np63 => ?_⟩
              have s64 : Hs (fun _ => False) H Z0 [c p63 (.lst ((encE t_8 n22).map V.int)), fz p60 (.tup ([V.str (sO t_8), V.int n22])), fz p_52 (.tup ([V.str (sO (nmE (encE t_8 n22))), V.int (valN (cutI (encE t_8 n22) 0 2))])), c p_23 (.lst ((encE t_8 n22).map V.int)), c p_34 (.lst ((octL t_8 n22).map V.int)), c p19 (.lst ([V.int 1, V.int 255, V.int 256, V.int 65535, V.int n18])), c p5 (.lst ([V.int 32, V.int 28])), c p3 (.lst ([V.int 32, V.int 28])), sq K a (ns.map V.int)] _ _ := s61.new np63 (.lst ((encE t_8 n22).map V.int))
              refine k_set [some (V.ref a), some (V.str (sO t_8)), some (V.int n62), some (V.int n22), some (V.ref p_23), some (V.ref p63), none, none] rfl ?_
              refine c_set ?_
              refine c_op ?_
              refine c_lst ?_
              refine c_cons ?_
              obtain ⟨n65, en65⟩ : ∃ n_ : Int, n_ = ((n62 / 8) % 32) := ⟨_, rfl⟩
              have en650 : 0 ≤ n65 := by rw [en65]; exact Int.emod_nonneg _ (by walk_at "side")
              have en651 : n65 < 32 := by rw [en65]; exact Int.emod_lt_of_pos _ (by walk_at "side")
              refine (vis (v1 (C := fun _ j => 0 < j) (g := fun i j => .int (i % j)) (i := n62 / 8) (j := 32) (by walk_at "side") (v1 (C := CDiv) (g := fun i j => .int (i / j)) (i := n62) (j := 8) ⟨by walk_at "side", by walk_at "side"⟩ (vv 2 rfl) vc) vc) (congrArg V.int en65.symm)) _ ?_
              refine c_cons ?_
              refine vc _ ?_
              refine c_cons ?_
              obtain ⟨n66, en66⟩ : ∃ n_ : Int, n_ = (3 + (t_8.length : Int)) := ⟨_, rfl⟩
              refine (vis (v0 (g := fun i j => .int (i + j)) vc (vlenS (a := t_8) (by walk_at "side") (vv 1 rfl))) (congrArg V.int en66.symm)) _ ?_
              refine c_cons ?_
              obtain ⟨n67, en67⟩ : ∃ n_ : Int, n_ = ((n62 / 8) % 3) := ⟨_, rfl⟩
              have en670 : 0 ≤ n67 := by rw [en67]; exact Int.emod_nonneg _ (by walk_at "side")
              have en671 : n67 < 3 := by rw [en67]; exact Int.emod_lt_of_pos _ (by walk_at "side")
              refine (vis (v1 (C := fun _ j => 0 < j) (g := fun i j => .int (i % j)) (i := n62 / 8) (j := 3) (by walk_at "side") (v1 (C := CDiv) (g := fun i j => .int (i / j)) (i := n62) (j := 8) ⟨by walk_at "side", by walk_at "side"⟩ (vv 2 rfl) vc) vc) (congrArg V.int en67.symm)) _ ?_
              refine c_cons ?_
              obtain ⟨n68, en68⟩ : ∃ n_ : Int, n_ = (if (2 + (t_8.length : Int)) < 31 then 2 + (t_8.length : Int) else 31) := ⟨_, rfl⟩
              refine (vis (vmin2 vc (v0 (g := fun i j => .int (i + j)) vc (vlenS (a := t_8) (by walk_at "side") (vv 1 rfl)))) (congrArg V.int en68.symm)) _ ?_
              refine c_nil ?_
              refine ⟨sz1 (by show 5 ≤ 1000000; decide), fun p69 np69 => ?_⟩
              have s70 : Hs (fun _ => False) H Z0 [c p69 (.lst ([V.int n65, V.int 2, V.int n66, V.int n67, V.int n68])), c p63 (.lst ((encE t_8 n22).map V.int)), fz p60 (.tup ([V.str (sO t_8), V.int n22])), fz p_52 (.tup ([V.str (sO (nmE (encE t_8 n22))), V.int (valN (cutI (encE t_8 n22) 0 2))])), c p_23 (.lst ((encE t_8 n22).map V.int)), c p_34 (.lst ((octL t_8 n22).map V.int)), c p19 (.lst ([V.int 1, V.int 255, V.int 256, V.int 65535, V.int n18])), c p5 (.lst ([V.int 32, V.int 28])), c p3 (.lst ([V.int 32, V.int 28])), sq K a (ns.map V.int)] _ _ := s64.new np69 (.lst ([V.int n65, V.int 2, V.int n66, V.int n67, V.int n68]))
              obtain ⟨n71, en71⟩ : ∃ n_ : Int, n_ = (n62 % 5) := ⟨_, rfl⟩
              have en710 : 0 ≤ n71 := by rw [en71]; exact Int.emod_nonneg _ (by walk_at "side")
              have en711 : n71 < 5 := by rw [en71]; exact Int.emod_lt_of_pos _ (by walk_at "side")
              refine (vis (v1 (C := fun _ j => 0 < j) (g := fun i j => .int (i % j)) (i := n62) (j := 5) (by walk_at "side") (vv 2 rfl) vc) (congrArg V.int en71.symm)) _ ?_
              refine ⟨_, (([n65, 2, n66, n67, n68]).map V.int), _, _, rfl, rfl, (SqL.of (s70.mem 0 rfl)), (at_gi (by walk_at "side") (by walk_at "side")), ?_⟩
              obtain ⟨n72, en72⟩ : ∃ n_ : Int, n_ = (gi ([n65, 2, n66, n67, n68]) n71) := ⟨_, rfl⟩
              have en720 : n72 = n65 ∨ n72 = 2 ∨ n72 = n66 ∨ n72 = n67 ∨ n72 = n68 := by
                have h := gi_mem (ns := ([n65, 2, n66, n67, n68])) (i := n71) (by walk_at "side") (by walk_at "side")
                rw [← en72] at h
                simpa only [List.mem_cons, List.not_mem_nil, or_false] using h
              refine k_setv (.int n72) (congrArg V.int en72.symm) ?_
              refine k_set [some (V.ref a), some (V.str (sO t_8)), some (V.int n62), some (V.int n22), some (V.ref p_23), some (V.ref p63), some (V.int n72), none] rfl ?_
              refine c_asg ?_
              refine c_op ?_
              refine c_lst ?_
              refine c_cons ?_
              refine vc _ ?_
              refine c_cons ?_
              refine vc _ ?_
              refine c_cons ?_
              refine vc _ ?_
              refine c_cons ?_
              refine vc _ ?_
              refine c_cons ?_
              refine vc _ ?_
              refine c_cons ?_
              refine vc _ ?_
              refine c_cons ?_
              refine vc _ ?_
              refine c_cons ?_
              refine vc _ ?_
              refine c_cons ?_
              refine vc _ ?_
              refine c_cons ?_
              refine vc _ ?_
              refine c_cons ?_
              refine vc _ ?_
              refine c_cons ?_
              obtain ⟨n73, en73⟩ : ∃ n_ : Int, n_ = ((n62 / 3072) % 256) := ⟨_, rfl⟩
              have en730 : 0 ≤ n73 := by rw [en73]; exact Int.emod_nonneg _ (by walk_at "side")
              have en731 : n73 < 256 := by rw [en73]; exact Int.emod_lt_of_pos _ (by walk_at "side")
              refine (vis (v1 (C := fun _ j => 0 < j) (g := fun i j => .int (i % j)) (i := n62 / 3072) (j := 256) (by walk_at "side") (v1 (C := CDiv) (g := fun i j => .int (i / j)) (i := n62) (j := 3072) ⟨by walk_at "side", by walk_at "side"⟩ (vv 2 rfl) vc) vc) (congrArg V.int en73.symm)) _ ?_
              refine c_nil ?_
              refine ⟨sz1 (by show 12 ≤ 1000000; decide), fun p74 np74 => ?_⟩
              have s75 : Hs (fun _ => False) H Z0 [c p74 (.lst ([V.int 0, V.int 1, V.int 28, V.int 29, V.int 31, V.int 32, V.int 37, V.int 46, V.int 47, V.int 126, V.int 127, V.int n73])), c p69 (.lst ([V.int n65, V.int 2, V.int n66, V.int n67, V.int n68])), c p63 (.lst ((encE t_8 n22).map V.int)), fz p60 (.tup ([V.str (sO t_8), V.int n22])), fz p_52 (.tup ([V.str (sO (nmE (encE t_8 n22))), V.int (valN (cutI (encE t_8 n22) 0 2))])), c p_23 (.lst ((encE t_8 n22).map V.int)), c p_34 (.lst ((octL t_8 n22).map V.int)), c p19 (.lst ([V.int 1, V.int 255, V.int 256, V.int 65535, V.int n18])), c p5 (.lst ([V.int 32, V.int 28])), c p3 (.lst ([V.int 32, V.int 28])), sq K a (ns.map V.int)] _ _ := s70.new np74 (.lst ([V.int 0, V.int 1, V.int 28, V.int 29, V.int 31, V.int 32, V.int 37, V.int 46, V.int 47, V.int 126, V.int 127, V.int n73]))
              obtain ⟨n76, en76⟩ : ∃ n_ : Int, n_ = ((n62 / 256) % 12) := ⟨_, rfl⟩
              have en760 : 0 ≤ n76 := by rw [en76]; exact Int.emod_nonneg _ (by walk_at "side")
              have en761 : n76 < 12 := by rw [en76]; exact Int.emod_lt_of_pos _ (by walk_at "side")
              refine (vis (v1 (C := fun _ j => 0 < j) (g := fun i j => .int (i % j)) (i := n62 / 256) (j := 12) (by walk_at "side") (v1 (C := CDiv) (g := fun i j => .int (i / j)) (i := n62) (j := 256) ⟨by walk_at "side", by walk_at "side"⟩ (vv 2 rfl) vc) vc) (congrArg V.int en76.symm)) _ ?_
              refine ⟨_, (([0, 1, 28, 29, 31, 32, 37, 46, 47, 126, 127, n73]).map V.int), _, _, rfl, rfl, (SqL.of (s75.mem 0 rfl)), (at_gi (by walk_at "side") (by walk_at "side")), ?_⟩
              obtain ⟨n77, en77⟩ : ∃ n_ : Int, n_ = (gi ([0, 1, 28, 29, 31, 32, 37, 46, 47, 126, 127, n73]) n76) := ⟨_, rfl⟩
              have en770 : n77 = 0 ∨ n77 = 1 ∨ n77 = 28 ∨ n77 = 29 ∨ n77 = 31 ∨ n77 = 32 ∨ n77 = 37 ∨ n77 = 46 ∨ n77 = 47 ∨ n77 = 126 ∨ n77 = 127 ∨ n77 = n73 := by
                have h := gi_mem (ns := ([0, 1, 28, 29, 31, 32, 37, 46, 47, 126, 127, n73])) (i := n76) (by walk_at "side") (by walk_at "side")
                rw [← en77] at h
                simpa only [List.mem_cons, List.not_mem_nil, or_false] using h
              refine (vv 5 rfl) _ ((v1 (C := fun _ j => 0 < j) (g := fun i j => .int (i % j)) (i := n72) (j := 32) (by walk_at "side") (vv 6 rfl) vc) _ ⟨_, _, _, (n72 % 32).toNat, rfl, rfl, (s75.mem 2 rfl), ix_nat (by walk_at "side") (by walk_at "side"), ?_⟩)
              have s78 : Hs (fun _ => False) H Z0 [c p74 (.lst ([V.int 0, V.int 1, V.int 28, V.int 29, V.int 31, V.int 32, V.int 37, V.int 46, V.int 47, V.int 126, V.int 127, V.int n73])), c p69 (.lst ([V.int n65, V.int 2, V.int n66, V.int n67, V.int n68])), c p63 (.lst (((encE t_8 n22).map V.int).set (n72 % 32).toNat (V.int (gi ([0, 1, 28, 29, 31, 32, 37, 46, 47, 126, 127, n73]) n76)))), fz p60 (.tup ([V.str (sO t_8), V.int n22])), fz p_52 (.tup ([V.str (sO (nmE (encE t_8 n22))), V.int (valN (cutI (encE t_8 n22) 0 2))])), c p_23 (.lst ((encE t_8 n22).map V.int)), c p_34 (.lst ((octL t_8 n22).map V.int)), c p19 (.lst ([V.int 1, V.int 255, V.int 256, V.int 65535, V.int n18])), c p5 (.lst ([V.int 32, V.int 28])), c p3 (.lst ([V.int 32, V.int 28])), sq K a (ns.map V.int)] _ _ := s75.wr 2 (.lst (((encE t_8 n22).map V.int).set (n72 % 32).toNat (V.int (gi ([0, 1, 28, 29, 31, 32, 37, 46, 47, 126, 127, n73]) n76)))) rfl
              have s79 : Hs (fun _ => False) H Z0 [c p74 (.lst ([V.int 0, V.int 1, V.int 28, V.int 29, V.int 31, V.int 32, V.int 37, V.int 46, V.int 47, V.int 126, V.int 127, V.int n73])), c p69 (.lst ([V.int n65, V.int 2, V.int n66, V.int n67, V.int n68])), c p63 (.lst (((encE t_8 n22).set (n72 % 32).toNat (gi ([0, 1, 28, 29, 31, 32, 37, 46, 47, 126, 127, n73]) n76)).map V.int)), fz p60 (.tup ([V.str (sO t_8), V.int n22])), fz p_52 (.tup ([V.str (sO (nmE (encE t_8 n22))), V.int (valN (cutI (encE t_8 n22) 0 2))])), c p_23 (.lst ((encE t_8 n22).map V.int)), c p_34 (.lst ((octL t_8 n22).map V.int)), c p19 (.lst ([V.int 1, V.int 255, V.int 256, V.int 65535, V.int n18])), c p5 (.lst ([V.int 32, V.int 28])), c p3 (.lst ([V.int 32, V.int 28])), sq K a (ns.map V.int)] _ _ := Hs.cg (by rw [map_seti]) s78
              refine c_ifS ?_
              refine c_or ?_
              refine c_not ?_
              refine c_tB ?_
              refine c_callx ?_
              refine c_cons ?_
              refine (vv 4 rfl) _ ?_
              refine c_nil ?_
              obtain ⟨G82, g83, k84⟩ := s79.giv [5] [0, 1, 2, 3, 4, 6, 7, 8, 9, 10] rfl
              refine ⟨p_23, (encE t_8 n22), rfl, (by first | assumption | walk_at "len32" | omega), (by walk_at "bd"), G82, _, g83, fun H85 Z86 r87 => ?_⟩
              have s88 : Hs (fun _ => False) H Z0 [c p_23 (.lst ((encE t_8 n22).map V.int)), c p74 (.lst ([V.int 0, V.int 1, V.int 28, V.int 29, V.int 31, V.int 32, V.int 37, V.int 46, V.int 47, V.int 126, V.int 127, V.int n73])), c p69 (.lst ([V.int n65, V.int 2, V.int n66, V.int n67, V.int n68])), c p63 (.lst (((encE t_8 n22).set (n72 % 32).toNat (gi ([0, 1, 28, 29, 31, 32, 37, 46, 47, 126, 127, n73]) n76)).map V.int)), fz p60 (.tup ([V.str (sO t_8), V.int n22])), fz p_52 (.tup ([V.str (sO (nmE (encE t_8 n22))), V.int (valN (cutI (encE t_8 n22) 0 2))])), c p_34 (.lst ((octL t_8 n22).map V.int)), c p19 (.lst ([V.int 1, V.int 255, V.int 256, V.int 65535, V.int n18])), c p5 (.lst ([V.int 32, V.int 28])), c p3 (.lst ([V.int 32, V.int 28])), sq K a (ns.map V.int)] _ _ := k84 _ _ _ r87
              refine ⟨_, rfl, ?_⟩
              refine c_iteBn (fun h81 => ?_) (fun h81 => ?_)
              · -- no
                exfalso; first | exact absurd h81 (by decide) | walk_at "dead"
              · -- yes
                refine c_or ?_
                refine c_not ?_
                refine c_tB ?_
                refine c_callx ?_
                refine c_cons ?_
                refine (vv 5 rfl) _ ?_
                refine c_nil ?_
                obtain ⟨G90, g91, k92⟩ := s88.giv [3] [0, 1, 2, 4, 5, 6, 7, 8, 9, 10] rfl
                refine ⟨p63, ((encE t_8 n22).set (n72 % 32).toNat (gi ([0, 1, 28, 29, 31, 32, 37, 46, 47, 126, 127, n73]) n76)), rfl, (by first | assumption | walk_at "len32" | omega), (by walk_at "bd"), G90, _, g91, fun H93 Z94 r95 => ?_⟩
                have s96 : Hs (fun _ => False) H Z0 [c p63 (.lst (((encE t_8 n22).set (n72 % 32).toNat (gi ([0, 1, 28, 29, 31, 32, 37, 46, 47, 126, 127, n73]) n76)).map V.int)), c p_23 (.lst ((encE t_8 n22).map V.int)), c p74 (.lst ([V.int 0, V.int 1, V.int 28, V.int 29, V.int 31, V.int 32, V.int 37, V.int 46, V.int 47, V.int 126, V.int 127, V.int n73])), c p69 (.lst ([V.int n65, V.int 2, V.int n66, V.int n67, V.int n68])), fz p60 (.tup ([V.str (sO t_8), V.int n22])), fz p_52 (.tup ([V.str (sO (nmE (encE t_8 n22))), V.int (valN (cutI (encE t_8 n22) 0 2))])), c p_34 (.lst ((octL t_8 n22).map V.int)), c p19 (.lst ([V.int 1, V.int 255, V.int 256, V.int 65535, V.int n18])), c p5 (.lst ([V.int 32, V.int 28])), c p3 (.lst ([V.int 32, V.int 28])), sq K a (ns.map V.int)] _ _ := k92 _ _ _ r95
                refine ⟨_, rfl, ?_⟩
                refine c_iteBn (fun h89 => ?_) (fun h89 => ?_)
                · -- no
                  exfalso; first | exact absurd h89 (by decide) | walk_at "dead"
                · -- yes
                  refine c_not ?_
                  refine c_tB ?_
                  refine c_callx ?_
                  refine c_cons ?_
                  refine c_op ?_
                  refine c_lst ?_
                  refine c_cons ?_
                  refine vc _ ?_
                  refine c_nil ?_
                  refine ⟨sz1 (by show 1 ≤ 1000000; decide), fun p98 np98 => ?_⟩
                  have s99 : Hs (fun _ => False) H Z0 [c p98 (.lst ([V.int 0])), c p63 (.lst (((encE t_8 n22).set (n72 % 32).toNat (gi ([0, 1, 28, 29, 31, 32, 37, 46, 47, 126, 127, n73]) n76)).map V.int)), c p_23 (.lst ((encE t_8 n22).map V.int)), c p74 (.lst ([V.int 0, V.int 1, V.int 28, V.int 29, V.int 31, V.int 32, V.int 37, V.int 46, V.int 47, V.int 126, V.int 127, V.int n73])), c p69 (.lst ([V.int n65, V.int 2, V.int n66, V.int n67, V.int n68])), fz p60 (.tup ([V.str (sO t_8), V.int n22])), fz p_52 (.tup ([V.str (sO (nmE (encE t_8 n22))), V.int (valN (cutI (encE t_8 n22) 0 2))])), c p_34 (.lst ((octL t_8 n22).map V.int)), c p19 (.lst ([V.int 1, V.int 255, V.int 256, V.int 65535, V.int n18])), c p5 (.lst ([V.int 32, V.int 28])), c p3 (.lst ([V.int 32, V.int 28])), sq K a (ns.map V.int)] _ _ := s96.new np98 (.lst ([V.int 0]))
                  refine vc _ ?_
                  refine ⟨_, _, _, rfl, rfl, (s99.mem 0 rfl), by walk_at "side", by walk_at "side", sz1 (by walk_at "side"), fun p100 np100 => ?_⟩
                  have s101 : Hs (fun _ => False) H Z0 [c p100 (.lst ((List.replicate (32 : Int).toNat 0).map V.int)), c p98 (.lst ([V.int 0])), c p63 (.lst (((encE t_8 n22).set (n72 % 32).toNat (gi ([0, 1, 28, 29, 31, 32, 37, 46, 47, 126, 127, n73]) n76)).map V.int)), c p_23 (.lst ((encE t_8 n22).map V.int)), c p74 (.lst ([V.int 0, V.int 1, V.int 28, V.int 29, V.int 31, V.int 32, V.int 37, V.int 46, V.int 47, V.int 126, V.int 127, V.int n73])), c p69 (.lst ([V.int n65, V.int 2, V.int n66, V.int n67, V.int n68])), fz p60 (.tup ([V.str (sO t_8), V.int n22])), fz p_52 (.tup ([V.str (sO (nmE (encE t_8 n22))), V.int (valN (cutI (encE t_8 n22) 0 2))])), c p_34 (.lst ((octL t_8 n22).map V.int)), c p19 (.lst ([V.int 1, V.int 255, V.int 256, V.int 65535, V.int n18])), c p5 (.lst ([V.int 32, V.int 28])), c p3 (.lst ([V.int 32, V.int 28])), sq K a (ns.map V.int)] _ _ := Hs.cgh (congrArg HO.lst ((List.map_replicate ..).trans (rep_one _ _).symm)) (s99.new np100 (.lst ((List.replicate (32 : Int).toNat [V.int 0]).flatten)))
                  refine c_nil ?_
                  obtain ⟨G102, g103, k104⟩ := s101.giv [0] [1, 2, 3, 4, 5, 6, 7, 8, 9, 10, 11, 12] rfl
                  refine ⟨p100, (List.replicate (32 : Int).toNat 0), rfl, (by first | assumption | walk_at "len32" | omega), (by walk_at "bd"), G102, _, g103, fun H105 Z106 r107 => ?_⟩
                  have s108 : Hs (fun _ => False) H Z0 [c p100 (.lst ((List.replicate (32 : Int).toNat 0).map V.int)), c p98 (.lst ([V.int 0])), c p63 (.lst (((encE t_8 n22).set (n72 % 32).toNat (gi ([0, 1, 28, 29, 31, 32, 37, 46, 47, 126, 127, n73]) n76)).map V.int)), c p_23 (.lst ((encE t_8 n22).map V.int)), c p74 (.lst ([V.int 0, V.int 1, V.int 28, V.int 29, V.int 31, V.int 32, V.int 37, V.int 46, V.int 47, V.int 126, V.int 127, V.int n73])), c p69 (.lst ([V.int n65, V.int 2, V.int n66, V.int n67, V.int n68])), fz p60 (.tup ([V.str (sO t_8), V.int n22])), fz p_52 (.tup ([V.str (sO (nmE (encE t_8 n22))), V.int (valN (cutI (encE t_8 n22) 0 2))])), c p_34 (.lst ((octL t_8 n22).map V.int)), c p19 (.lst ([V.int 1, V.int 255, V.int 256, V.int 65535, V.int n18])), c p5 (.lst ([V.int 32, V.int 28])), c p3 (.lst ([V.int 32, V.int 28])), sq K a (ns.map V.int)] _ _ := k104 _ _ _ r107
                  refine ⟨_, rfl, ?_⟩
                  refine c_iteBn (fun h97 => ?_) (fun h97 => ?_)
                  · -- no
                    exfalso; first | exact absurd h97 (by decide) | walk_at "dead"
                  · -- yes
                    refine s_nxs ?_
                    obtain ⟨n109, en109⟩ : ∃ n_ : Int, n_ = ((n62 / 98304) % 256) := ⟨_, rfl⟩
                    have en1090 : 0 ≤ n109 := by rw [en109]; exact Int.emod_nonneg _ (by walk_at "side")
                    have en1091 : n109 < 256 := by rw [en109]; exact Int.emod_lt_of_pos _ (by walk_at "side")
                    refine s_setI (xs := ((encE t_8 n22).set (n72 % 32).toNat (gi ([0, 1, 28, 29, 31, 32, 37, 46, 47, 126, 127, n73]) n76))) (s108.mem 2 rfl) (vis (v1 (C := fun _ j => 0 < j) (g := fun i j => .int (i % j)) (i := n62 / 98304) (j := 256) (by walk_at "side") (v1 (C := CDiv) (g := fun i j => .int (i / j)) (i := n62) (j := 98304) ⟨by walk_at "side", by walk_at "side"⟩ (vv 2 rfl) vc) vc) (congrArg V.int en109.symm)) (vv 5 rfl) (v1 (C := fun _ j => 0 < j) (g := fun i j => .int (i % j)) (i := n62 / 3072) (j := 32) (by walk_at "side") (v1 (C := CDiv) (g := fun i j => .int (i / j)) (i := n62) (j := 3072) ⟨by walk_at "side", by walk_at "side"⟩ (vv 2 rfl) vc) vc) (by walk_at "side") (by walk_at "side") ?_
                    have s110 : Hs (fun _ => False) H Z0 [c p100 (.lst ((List.replicate (32 : Int).toNat 0).map V.int)), c p98 (.lst ([V.int 0])), c p63 (.lst ((((encE t_8 n22).set (n72 % 32).toNat (gi ([0, 1, 28, 29, 31, 32, 37, 46, 47, 126, 127, n73]) n76)).set ((n62 / 3072) % 32).toNat n109).map V.int)), c p_23 (.lst ((encE t_8 n22).map V.int)), c p74 (.lst ([V.int 0, V.int 1, V.int 28, V.int 29, V.int 31, V.int 32, V.int 37, V.int 46, V.int 47, V.int 126, V.int 127, V.int n73])), c p69 (.lst ([V.int n65, V.int 2, V.int n66, V.int n67, V.int n68])), fz p60 (.tup ([V.str (sO t_8), V.int n22])), fz p_52 (.tup ([V.str (sO (nmE (encE t_8 n22))), V.int (valN (cutI (encE t_8 n22) 0 2))])), c p_34 (.lst ((octL t_8 n22).map V.int)), c p19 (.lst ([V.int 1, V.int 255, V.int 256, V.int 65535, V.int n18])), c p5 (.lst ([V.int 32, V.int 28])), c p3 (.lst ([V.int 32, V.int 28])), sq K a (ns.map V.int)] _ _ := s108.wr 2 (.lst ((((encE t_8 n22).set (n72 % 32).toNat (gi ([0, 1, 28, 29, 31, 32, 37, 46, 47, 126, 127, n73]) n76)).set ((n62 / 3072) % 32).toNat n109).map V.int)) rfl
                    refine c_ifS ?_
                    refine c_not ?_
                    refine c_tB ?_
                    refine c_callx ?_
                    refine c_cons ?_
                    refine (vv 5 rfl) _ ?_
                    refine c_nil ?_
                    obtain ⟨G113, g114, k115⟩ := s110.giv [2] [0, 1, 3, 4, 5, 6, 7, 8, 9, 10, 11, 12] rfl
                    refine ⟨p63, (((encE t_8 n22).set (n72 % 32).toNat (gi ([0, 1, 28, 29, 31, 32, 37, 46, 47, 126, 127, n73]) n76)).set ((n62 / 3072) % 32).toNat n109), rfl, (by first | assumption | walk_at "len32" | omega), (by walk_at "bd"), G113, _, g114, fun H116 Z117 r118 => ?_⟩
                    have s119 : Hs (fun _ => False) H Z0 [c p63 (.lst ((((encE t_8 n22).set (n72 % 32).toNat (gi ([0, 1, 28, 29, 31, 32, 37, 46, 47, 126, 127, n73]) n76)).set ((n62 / 3072) % 32).toNat n109).map V.int)), c p100 (.lst ((List.replicate (32 : Int).toNat 0).map V.int)), c p98 (.lst ([V.int 0])), c p_23 (.lst ((encE t_8 n22).map V.int)), c p74 (.lst ([V.int 0, V.int 1, V.int 28, V.int 29, V.int 31, V.int 32, V.int 37, V.int 46, V.int 47, V.int 126, V.int 127, V.int n73])), c p69 (.lst ([V.int n65, V.int 2, V.int n66, V.int n67, V.int n68])), fz p60 (.tup ([V.str (sO t_8), V.int n22])), fz p_52 (.tup ([V.str (sO (nmE (encE t_8 n22))), V.int (valN (cutI (encE t_8 n22) 0 2))])), c p_34 (.lst ((octL t_8 n22).map V.int)), c p19 (.lst ([V.int 1, V.int 255, V.int 256, V.int 65535, V.int n18])), c p5 (.lst ([V.int 32, V.int 28])), c p3 (.lst ([V.int 32, V.int 28])), sq K a (ns.map V.int)] _ _ := k115 _ _ _ r118
                    refine ⟨_, rfl, ?_⟩
                    refine c_iteBn (fun h112 => ?_) (fun h112 => ?_)
                    · -- no
                      exfalso; first | exact absurd h112 (by decide) | walk_at "dead"
                    · -- yes
                      refine s_nxs ?_
                      refine c_set ?_
                      refine c_op ?_
                      refine c_lst ?_
                      refine c_cons ?_
                      obtain ⟨n120, en120⟩ : ∃ n_ : Int, n_ = (n62 % 3) := ⟨_, rfl⟩
                      have en1200 : 0 ≤ n120 := by rw [en120]; exact Int.emod_nonneg _ (by walk_at "side")
                      have en1201 : n120 < 3 := by rw [en120]; exact Int.emod_lt_of_pos _ (by walk_at "side")
                      refine (vis (v1 (C := fun _ j => 0 < j) (g := fun i j => .int (i % j)) (i := n62) (j := 3) (by walk_at "side") (vv 2 rfl) vc) (congrArg V.int en120.symm)) _ ?_
                      refine c_cons ?_
                      obtain ⟨n121, en121⟩ : ∃ n_ : Int, n_ = ((n62 / 3) % 2) := ⟨_, rfl⟩
                      have en1210 : 0 ≤ n121 := by rw [en121]; exact Int.emod_nonneg _ (by walk_at "side")
                      have en1211 : n121 < 2 := by rw [en121]; exact Int.emod_lt_of_pos _ (by walk_at "side")
                      refine (vis (v1 (C := fun _ j => 0 < j) (g := fun i j => .int (i % j)) (i := n62 / 3) (j := 2) (by walk_at "side") (v1 (C := CDiv) (g := fun i j => .int (i / j)) (i := n62) (j := 3) ⟨by walk_at "side", by walk_at "side"⟩ (vv 2 rfl) vc) vc) (congrArg V.int en121.symm)) _ ?_
                      refine c_cons ?_
                      obtain ⟨n122, en122⟩ : ∃ n_ : Int, n_ = ((n62 / 6) % 31) := ⟨_, rfl⟩
                      have en1220 : 0 ≤ n122 := by rw [en122]; exact Int.emod_nonneg _ (by walk_at "side")
                      have en1221 : n122 < 31 := by rw [en122]; exact Int.emod_lt_of_pos _ (by walk_at "side")
                      refine (vis (v1 (C := fun _ j => 0 < j) (g := fun i j => .int (i % j)) (i := n62 / 6) (j := 31) (by walk_at "side") (v1 (C := CDiv) (g := fun i j => .int (i / j)) (i := n62) (j := 6) ⟨by walk_at "side", by walk_at "side"⟩ (vv 2 rfl) vc) vc) (congrArg V.int en122.symm)) _ ?_
                      refine c_nil ?_
                      refine ⟨sz1 (by show 3 ≤ 1000000; decide), fun p123 np123 => ?_⟩
                      have s124 : Hs (fun _ => False) H Z0 [c p123 (.lst ([V.int n120, V.int n121, V.int n122])), c p63 (.lst ((((encE t_8 n22).set (n72 % 32).toNat (gi ([0, 1, 28, 29, 31, 32, 37, 46, 47, 126, 127, n73]) n76)).set ((n62 / 3072) % 32).toNat n109).map V.int)), c p100 (.lst ((List.replicate (32 : Int).toNat 0).map V.int)), c p98 (.lst ([V.int 0])), c p_23 (.lst ((encE t_8 n22).map V.int)), c p74 (.lst ([V.int 0, V.int 1, V.int 28, V.int 29, V.int 31, V.int 32, V.int 37, V.int 46, V.int 47, V.int 126, V.int 127, V.int n73])), c p69 (.lst ([V.int n65, V.int 2, V.int n66, V.int n67, V.int n68])), fz p60 (.tup ([V.str (sO t_8), V.int n22])), fz p_52 (.tup ([V.str (sO (nmE (encE t_8 n22))), V.int (valN (cutI (encE t_8 n22) 0 2))])), c p_34 (.lst ((octL t_8 n22).map V.int)), c p19 (.lst ([V.int 1, V.int 255, V.int 256, V.int 65535, V.int n18])), c p5 (.lst ([V.int 32, V.int 28])), c p3 (.lst ([V.int 32, V.int 28])), sq K a (ns.map V.int)] _ _ := s119.new np123 (.lst ([V.int n120, V.int n121, V.int n122]))
                      refine c_lcR (n := 29) (fun (i125 : Nat) => 32 + ((n62 / (7 + (i125 : Int))) % 95)) s124 (va vc va0) ⟨by walk_at "side", by walk_at "side"⟩ (fun _ => rfl) (fun i125 H128 h127 s126 => (v0 (g := fun i j => .int (i + j)) vc (v1 (C := fun _ j => 0 < j) (g := fun i j => .int (i % j)) (i := n62 / (7 + (i125 : Int))) (j := 95) (by walk_at "side") (v1 (C := CDiv) (g := fun i j => .int (i / j)) (i := n62) (j := 7 + (i125 : Int)) ⟨by walk_at "side", by walk_at "side"⟩ (vv 2 rfl) (v0 (g := fun i j => .int (i + j)) vc (vv 7 rfl))) vc))) (fun p129 H131 s130 => ?_)
                      refine c_cat (s130.mem 1 rfl) (s130.mem 0 rfl) (by walk_at "side") (fun p132 np132 => ?_)
                      have s133 : Hs (fun _ => False) H Z0 [c p132 (.lst ((([n120, n121, n122]) ++ ((List.range (29 : Int).toNat).map (fun (j_ : Nat) => 32 + ((n62 / (7 + (j_ : Int))) % 95)))).map V.int)), c p129 (.lst (((List.range (29 : Int).toNat).map (fun (j_ : Nat) => 32 + ((n62 / (7 + (j_ : Int))) % 95))).map V.int)), c p123 (.lst ([V.int n120, V.int n121, V.int n122])), c p63 (.lst ((((encE t_8 n22).set (n72 % 32).toNat (gi ([0, 1, 28, 29, 31, 32, 37, 46, 47, 126, 127, n73]) n76)).set ((n62 / 3072) % 32).toNat n109).map V.int)), c p100 (.lst ((List.replicate (32 : Int).toNat 0).map V.int)), c p98 (.lst ([V.int 0])), c p_23 (.lst ((encE t_8 n22).map V.int)), c p74 (.lst ([V.int 0, V.int 1, V.int 28, V.int 29, V.int 31, V.int 32, V.int 37, V.int 46, V.int 47, V.int 126, V.int 127, V.int n73])), c p69 (.lst ([V.int n65, V.int 2, V.int n66, V.int n67, V.int n68])), fz p60 (.tup ([V.str (sO t_8), V.int n22])), fz p_52 (.tup ([V.str (sO (nmE (encE t_8 n22))), V.int (valN (cutI (encE t_8 n22) 0 2))])), c p_34 (.lst ((octL t_8 n22).map V.int)), c p19 (.lst ([V.int 1, V.int 255, V.int 256, V.int 65535, V.int n18])), c p5 (.lst ([V.int 32, V.int 28])), c p3 (.lst ([V.int 32, V.int 28])), sq K a (ns.map V.int)] _ _ := Hs.cgh ((cat_eq (a := [n120, n121, n122]) (b := (List.range (29 : Int).toNat).map (fun (j_ : Nat) => 32 + ((n62 / (7 + (j_ : Int))) % 95))) rfl rfl).symm) (s130.new np132 (.lst (([V.int n120, V.int n121, V.int n122]) ++ (((List.range (29 : Int).toNat).map (fun (j_ : Nat) => 32 + ((n62 / (7 + (j_ : Int))) % 95))).map V.int))))
                      refine k_set [some (V.ref a), some (V.str (sO t_8)), some (V.int n62), some (V.int n22), some (V.ref p_23), some (V.ref p132), some (V.int n72), none] rfl ?_
                      obtain ⟨l134, el134⟩ : ∃ l : List Int, l = (([n120, n121, n122]) ++ ((List.range (29 : Int).toNat).map (fun (j_ : Nat) => 32 + ((n62 / (7 + (j_ : Int))) % 95)))) := ⟨_, rfl⟩
                      have s135 : Hs (fun _ => False) H Z0 [c p132 (.lst (l134.map V.int)), c p129 (.lst (((List.range (29 : Int).toNat).map (fun (j_ : Nat) => 32 + ((n62 / (7 + (j_ : Int))) % 95))).map V.int)), c p123 (.lst ([V.int n120, V.int n121, V.int n122])), c p63 (.lst ((((encE t_8 n22).set (n72 % 32).toNat (gi ([0, 1, 28, 29, 31, 32, 37, 46, 47, 126, 127, n73]) n76)).set ((n62 / 3072) % 32).toNat n109).map V.int)), c p100 (.lst ((List.replicate (32 : Int).toNat 0).map V.int)), c p98 (.lst ([V.int 0])), c p_23 (.lst ((encE t_8 n22).map V.int)), c p74 (.lst ([V.int 0, V.int 1, V.int 28, V.int 29, V.int 31, V.int 32, V.int 37, V.int 46, V.int 47, V.int 126, V.int 127, V.int n73])), c p69 (.lst ([V.int n65, V.int 2, V.int n66, V.int n67, V.int n68])), fz p60 (.tup ([V.str (sO t_8), V.int n22])), fz p_52 (.tup ([V.str (sO (nmE (encE t_8 n22))), V.int (valN (cutI (encE t_8 n22) 0 2))])), c p_34 (.lst ((octL t_8 n22).map V.int)), c p19 (.lst ([V.int 1, V.int 255, V.int 256, V.int 65535, V.int n18])), c p5 (.lst ([V.int 32, V.int 28])), c p3 (.lst ([V.int 32, V.int 28])), sq K a (ns.map V.int)] _ _ := Hs.cg (by rw [el134]) s133
                      have hll : l134.length = 32 := by rw [el134]; simp
                      have hlb : ∀ o ∈ l134, 0 ≤ o ∧ o < 256 := by rw [el134]; exact row_bd (by omega) (by omega) (by omega) (fun k => by omega)
                      have hl2 := gi_nn hll hlb (i := 2) (by omega) (by omega)
                      refine s_forR2 (va (vixL (vv 5 rfl) vc (xs := (l134.map V.int)) (SqL.of (s135.mem 0 rfl)) (at_gi (by walk_at "side") (by walk_at "side"))) (va vc va0)) ⟨by walk_at "side", by walk_at "side", by walk_at "side", by walk_at "side"⟩ (fun i136 σ' H' => ∃ (Z' : Hp) (y__law_k : Option V) (ws : List Int), σ' = [some (V.ref a), some (V.str (sO t_8)), some (V.int n62), some (V.int n22), some (V.ref p_23), some (V.ref p132), some (V.int n72), y__law_k] ∧ Hs (fun _ => False) H Z0 [c p132 (.lst (ws.map V.int)), c p129 (.lst (((List.range (29 : Int).toNat).map (fun (j_ : Nat) => 32 + ((n62 / (7 + (j_ : Int))) % 95))).map V.int)), c p123 (.lst ([V.int n120, V.int n121, V.int n122])), c p63 (.lst ((((encE t_8 n22).set (n72 % 32).toNat (gi ([0, 1, 28, 29, 31, 32, 37, 46, 47, 126, 127, n73]) n76)).set ((n62 / 3072) % 32).toNat n109).map V.int)), c p100 (.lst ((List.replicate (32 : Int).toNat 0).map V.int)), c p98 (.lst ([V.int 0])), c p_23 (.lst ((encE t_8 n22).map V.int)), c p74 (.lst ([V.int 0, V.int 1, V.int 28, V.int 29, V.int 31, V.int 32, V.int 37, V.int 46, V.int 47, V.int 126, V.int 127, V.int n73])), c p69 (.lst ([V.int n65, V.int 2, V.int n66, V.int n67, V.int n68])), fz p60 (.tup ([V.str (sO t_8), V.int n22])), fz p_52 (.tup ([V.str (sO (nmE (encE t_8 n22))), V.int (valN (cutI (encE t_8 n22) 0 2))])), c p_34 (.lst ((octL t_8 n22).map V.int)), c p19 (.lst ([V.int 1, V.int 255, V.int 256, V.int 65535, V.int n18])), c p5 (.lst ([V.int 32, V.int 28])), c p3 (.lst ([V.int 32, V.int 28])), sq K a (ns.map V.int)] H' Z' ∧ (ws.length = 32) ∧ (∀ o ∈ ws, 0 ≤ o ∧ o < 256)) ?_ ?_ ?_
                      · -- start
                        refine ⟨_, _, l134, rfl, s135.pick [0, 1, 2, 3, 4, 5, 6, 7, 8, 9, 10, 11, 12, 13, 14, 15] (by decide) (by walk_at "finL"), ?_, ?_⟩
                        · assumption
                        · assumption
                      · intro i136 σ' H' h137 hP; obtain ⟨Z', y__law_k, ws, rfl, sI, hI0, hI1⟩ := hP
                        refine c_sig [some (V.ref a), some (V.str (sO t_8)), some (V.int n62), some (V.int n22), some (V.ref p_23), some (V.ref p132), some (V.int n72), some (V.int ((gi l134 2) + (i136 : Int)))] rfl ?_
                        refine s_setI (xs := ws) (sI.mem 0 rfl) vc (vv 5 rfl) (v0 (g := fun i j => .int (i + j)) vc (vv 7 rfl)) (by walk_at "side") (by walk_at "side") ?_
                        have s139 : Hs (fun _ => False) H Z0 [c p132 (.lst ((ws.set (3 + ((gi l134 2) + (i136 : Int))).toNat 0).map V.int)), c p129 (.lst (((List.range (29 : Int).toNat).map (fun (j_ : Nat) => 32 + ((n62 / (7 + (j_ : Int))) % 95))).map V.int)), c p123 (.lst ([V.int n120, V.int n121, V.int n122])), c p63 (.lst ((((encE t_8 n22).set (n72 % 32).toNat (gi ([0, 1, 28, 29, 31, 32, 37, 46, 47, 126, 127, n73]) n76)).set ((n62 / 3072) % 32).toNat n109).map V.int)), c p100 (.lst ((List.replicate (32 : Int).toNat 0).map V.int)), c p98 (.lst ([V.int 0])), c p_23 (.lst ((encE t_8 n22).map V.int)), c p74 (.lst ([V.int 0, V.int 1, V.int 28, V.int 29, V.int 31, V.int 32, V.int 37, V.int 46, V.int 47, V.int 126, V.int 127, V.int n73])), c p69 (.lst ([V.int n65, V.int 2, V.int n66, V.int n67, V.int n68])), fz p60 (.tup ([V.str (sO t_8), V.int n22])), fz p_52 (.tup ([V.str (sO (nmE (encE t_8 n22))), V.int (valN (cutI (encE t_8 n22) 0 2))])), c p_34 (.lst ((octL t_8 n22).map V.int)), c p19 (.lst ([V.int 1, V.int 255, V.int 256, V.int 65535, V.int n18])), c p5 (.lst ([V.int 32, V.int 28])), c p3 (.lst ([V.int 32, V.int 28])), sq K a (ns.map V.int)] _ _ := sI.wr 0 (.lst ((ws.set (3 + ((gi l134 2) + (i136 : Int))).toNat 0).map V.int)) rfl
                        refine s_nx ?_
                        refine ⟨_, _, ws.set (3 + ((gi l134 2) + (i136 : Int))).toNat 0, rfl, s139.pick [0, 1, 2, 3, 4, 5, 6, 7, 8, 9, 10, 11, 12, 13, 14, 15] (by decide) (by walk_at "finL"), ?_, ?_⟩
                        · (rw [List.length_set]; assumption)
                        · exact set_bd (by assumption) (by omega) (by omega)
                      · intro σ' H' hP; obtain ⟨Z', y__law_k, ws, rfl, sI, hI0, hI1⟩ := hP
                        have hwl := hI0
                        have hwb := hI1
                        refine s_if (p := ((n62 / 6) % 9) = 2) (vtest (veq (v1 (C := fun _ j => 0 < j) (g := fun i j => .int (i % j)) (i := n62 / 6) (j := 9) (by walk_at "side") (v1 (C := CDiv) (g := fun i j => .int (i / j)) (i := n62) (j := 6) ⟨by walk_at "side", by walk_at "side"⟩ (vv 2 rfl) vc) vc) vc)) (fun h140 => ?_) (fun h140 => ?_)
                        · -- then line 150
                          obtain ⟨n141, en141⟩ : ∃ n_ : Int, n_ = (1 + ((n62 / 54) % 2)) := ⟨_, rfl⟩
                          refine s_setI (xs := ws) (sI.mem 0 rfl) (vis (v0 (g := fun i j => .int (i + j)) vc (v1 (C := fun _ j => 0 < j) (g := fun i j => .int (i % j)) (i := n62 / 54) (j := 2) (by walk_at "side") (v1 (C := CDiv) (g := fun i j => .int (i / j)) (i := n62) (j := 54) ⟨by walk_at "side", by walk_at "side"⟩ (vv 2 rfl) vc) vc)) (congrArg V.int en141.symm)) (vv 5 rfl) vc (by walk_at "side") (by walk_at "side") ?_
                          have s142 : Hs (fun _ => False) H Z0 [c p132 (.lst ((ws.set (2 : Int).toNat n141).map V.int)), c p129 (.lst (((List.range (29 : Int).toNat).map (fun (j_ : Nat) => 32 + ((n62 / (7 + (j_ : Int))) % 95))).map V.int)), c p123 (.lst ([V.int n120, V.int n121, V.int n122])), c p63 (.lst ((((encE t_8 n22).set (n72 % 32).toNat (gi ([0, 1, 28, 29, 31, 32, 37, 46, 47, 126, 127, n73]) n76)).set ((n62 / 3072) % 32).toNat n109).map V.int)), c p100 (.lst ((List.replicate (32 : Int).toNat 0).map V.int)), c p98 (.lst ([V.int 0])), c p_23 (.lst ((encE t_8 n22).map V.int)), c p74 (.lst ([V.int 0, V.int 1, V.int 28, V.int 29, V.int 31, V.int 32, V.int 37, V.int 46, V.int 47, V.int 126, V.int 127, V.int n73])), c p69 (.lst ([V.int n65, V.int 2, V.int n66, V.int n67, V.int n68])), fz p60 (.tup ([V.str (sO t_8), V.int n22])), fz p_52 (.tup ([V.str (sO (nmE (encE t_8 n22))), V.int (valN (cutI (encE t_8 n22) 0 2))])), c p_34 (.lst ((octL t_8 n22).map V.int)), c p19 (.lst ([V.int 1, V.int 255, V.int 256, V.int 65535, V.int n18])), c p5 (.lst ([V.int 32, V.int 28])), c p3 (.lst ([V.int 32, V.int 28])), sq K a (ns.map V.int)] _ _ := sI.wr 0 (.lst ((ws.set (2 : Int).toNat n141).map V.int)) rfl
                          have hg2 : gi (ws.set (2 : Int).toNat n141) 2 = n141 := gi_set2 hwl
                          refine c_asg ?_
                          refine c_op ?_
                          refine c_lst ?_
                          refine c_cons ?_
                          refine vc _ ?_
                          refine c_cons ?_
                          obtain ⟨n143, en143⟩ : ∃ n_ : Int, n_ = (46 * ((gi (ws.set (2 : Int).toNat n141) 2) - 1)) := ⟨_, rfl⟩
                          refine (vis (v1 (C := CMul) (g := fun i j => .int (i * j)) (i := 46) (j := (gi (ws.set (2 : Int).toNat n141) 2) - 1) (.inl (by walk_at "cmul")) vc (v0 (g := fun i j => .int (i - j)) (vixL (vv 5 rfl) vc (xs := ((ws.set (2 : Int).toNat n141).map V.int)) (SqL.of (s142.mem 0 rfl)) (at_gi (by walk_at "side") (by walk_at "side"))) vc)) (congrArg V.int en143.symm)) _ ?_
                          refine c_nil ?_
                          refine ⟨sz1 (by show 2 ≤ 1000000; decide), fun p144 np144 => ?_⟩
                          have s145 : Hs (fun _ => False) H Z0 [c p144 (.lst ([V.int 46, V.int n143])), c p132 (.lst ((ws.set (2 : Int).toNat n141).map V.int)), c p129 (.lst (((List.range (29 : Int).toNat).map (fun (j_ : Nat) => 32 + ((n62 / (7 + (j_ : Int))) % 95))).map V.int)), c p123 (.lst ([V.int n120, V.int n121, V.int n122])), c p63 (.lst ((((encE t_8 n22).set (n72 % 32).toNat (gi ([0, 1, 28, 29, 31, 32, 37, 46, 47, 126, 127, n73]) n76)).set ((n62 / 3072) % 32).toNat n109).map V.int)), c p100 (.lst ((List.replicate (32 : Int).toNat 0).map V.int)), c p98 (.lst ([V.int 0])), c p_23 (.lst ((encE t_8 n22).map V.int)), c p74 (.lst ([V.int 0, V.int 1, V.int 28, V.int 29, V.int 31, V.int 32, V.int 37, V.int 46, V.int 47, V.int 126, V.int 127, V.int n73])), c p69 (.lst ([V.int n65, V.int 2, V.int n66, V.int n67, V.int n68])), fz p60 (.tup ([V.str (sO t_8), V.int n22])), fz p_52 (.tup ([V.str (sO (nmE (encE t_8 n22))), V.int (valN (cutI (encE t_8 n22) 0 2))])), c p_34 (.lst ((octL t_8 n22).map V.int)), c p19 (.lst ([V.int 1, V.int 255, V.int 256, V.int 65535, V.int n18])), c p5 (.lst ([V.int 32, V.int 28])), c p3 (.lst ([V.int 32, V.int 28])), sq K a (ns.map V.int)] _ _ := s142.new np144 (.lst ([V.int 46, V.int n143]))
                          refine c_op ?_
                          refine c_lst ?_
                          refine c_cons ?_
                          refine vc _ ?_
                          refine c_nil ?_
                          refine ⟨sz1 (by show 1 ≤ 1000000; decide), fun p146 np146 => ?_⟩
                          have s147 : Hs (fun _ => False) H Z0 [c p146 (.lst ([V.int 0])), c p144 (.lst ([V.int 46, V.int n143])), c p132 (.lst ((ws.set (2 : Int).toNat n141).map V.int)), c p129 (.lst (((List.range (29 : Int).toNat).map (fun (j_ : Nat) => 32 + ((n62 / (7 + (j_ : Int))) % 95))).map V.int)), c p123 (.lst ([V.int n120, V.int n121, V.int n122])), c p63 (.lst ((((encE t_8 n22).set (n72 % 32).toNat (gi ([0, 1, 28, 29, 31, 32, 37, 46, 47, 126, 127, n73]) n76)).set ((n62 / 3072) % 32).toNat n109).map V.int)), c p100 (.lst ((List.replicate (32 : Int).toNat 0).map V.int)), c p98 (.lst ([V.int 0])), c p_23 (.lst ((encE t_8 n22).map V.int)), c p74 (.lst ([V.int 0, V.int 1, V.int 28, V.int 29, V.int 31, V.int 32, V.int 37, V.int 46, V.int 47, V.int 126, V.int 127, V.int n73])), c p69 (.lst ([V.int n65, V.int 2, V.int n66, V.int n67, V.int n68])), fz p60 (.tup ([V.str (sO t_8), V.int n22])), fz p_52 (.tup ([V.str (sO (nmE (encE t_8 n22))), V.int (valN (cutI (encE t_8 n22) 0 2))])), c p_34 (.lst ((octL t_8 n22).map V.int)), c p19 (.lst ([V.int 1, V.int 255, V.int 256, V.int 65535, V.int n18])), c p5 (.lst ([V.int 32, V.int 28])), c p3 (.lst ([V.int 32, V.int 28])), sq K a (ns.map V.int)] _ _ := s145.new np146 (.lst ([V.int 0]))
                          refine vc _ ?_
                          refine ⟨_, _, _, rfl, rfl, (s147.mem 0 rfl), by walk_at "side", by walk_at "side", sz1 (by walk_at "side"), fun p148 np148 => ?_⟩
                          have s149 : Hs (fun _ => False) H Z0 [c p148 (.lst ((List.replicate (27 : Int).toNat 0).map V.int)), c p146 (.lst ([V.int 0])), c p144 (.lst ([V.int 46, V.int n143])), c p132 (.lst ((ws.set (2 : Int).toNat n141).map V.int)), c p129 (.lst (((List.range (29 : Int).toNat).map (fun (j_ : Nat) => 32 + ((n62 / (7 + (j_ : Int))) % 95))).map V.int)), c p123 (.lst ([V.int n120, V.int n121, V.int n122])), c p63 (.lst ((((encE t_8 n22).set (n72 % 32).toNat (gi ([0, 1, 28, 29, 31, 32, 37, 46, 47, 126, 127, n73]) n76)).set ((n62 / 3072) % 32).toNat n109).map V.int)), c p100 (.lst ((List.replicate (32 : Int).toNat 0).map V.int)), c p98 (.lst ([V.int 0])), c p_23 (.lst ((encE t_8 n22).map V.int)), c p74 (.lst ([V.int 0, V.int 1, V.int 28, V.int 29, V.int 31, V.int 32, V.int 37, V.int 46, V.int 47, V.int 126, V.int 127, V.int n73])), c p69 (.lst ([V.int n65, V.int 2, V.int n66, V.int n67, V.int n68])), fz p60 (.tup ([V.str (sO t_8), V.int n22])), fz p_52 (.tup ([V.str (sO (nmE (encE t_8 n22))), V.int (valN (cutI (encE t_8 n22) 0 2))])), c p_34 (.lst ((octL t_8 n22).map V.int)), c p19 (.lst ([V.int 1, V.int 255, V.int 256, V.int 65535, V.int n18])), c p5 (.lst ([V.int 32, V.int 28])), c p3 (.lst ([V.int 32, V.int 28])), sq K a (ns.map V.int)] _ _ := Hs.cgh (congrArg HO.lst ((List.map_replicate ..).trans (rep_one _ _).symm)) (s147.new np148 (.lst ((List.replicate (27 : Int).toNat [V.int 0]).flatten)))
                          refine c_cat (s149.mem 2 rfl) (s149.mem 0 rfl) (by walk_at "side") (fun p150 np150 => ?_)
                          have s151 : Hs (fun _ => False) H Z0 [c p150 (.lst ((([46, n143]) ++ (List.replicate (27 : Int).toNat 0)).map V.int)), c p148 (.lst ((List.replicate (27 : Int).toNat 0).map V.int)), c p146 (.lst ([V.int 0])), c p144 (.lst ([V.int 46, V.int n143])), c p132 (.lst ((ws.set (2 : Int).toNat n141).map V.int)), c p129 (.lst (((List.range (29 : Int).toNat).map (fun (j_ : Nat) => 32 + ((n62 / (7 + (j_ : Int))) % 95))).map V.int)), c p123 (.lst ([V.int n120, V.int n121, V.int n122])), c p63 (.lst ((((encE t_8 n22).set (n72 % 32).toNat (gi ([0, 1, 28, 29, 31, 32, 37, 46, 47, 126, 127, n73]) n76)).set ((n62 / 3072) % 32).toNat n109).map V.int)), c p100 (.lst ((List.replicate (32 : Int).toNat 0).map V.int)), c p98 (.lst ([V.int 0])), c p_23 (.lst ((encE t_8 n22).map V.int)), c p74 (.lst ([V.int 0, V.int 1, V.int 28, V.int 29, V.int 31, V.int 32, V.int 37, V.int 46, V.int 47, V.int 126, V.int 127, V.int n73])), c p69 (.lst ([V.int n65, V.int 2, V.int n66, V.int n67, V.int n68])), fz p60 (.tup ([V.str (sO t_8), V.int n22])), fz p_52 (.tup ([V.str (sO (nmE (encE t_8 n22))), V.int (valN (cutI (encE t_8 n22) 0 2))])), c p_34 (.lst ((octL t_8 n22).map V.int)), c p19 (.lst ([V.int 1, V.int 255, V.int 256, V.int 65535, V.int n18])), c p5 (.lst ([V.int 32, V.int 28])), c p3 (.lst ([V.int 32, V.int 28])), sq K a (ns.map V.int)] _ _ := Hs.cgh ((cat_eq (a := [46, n143]) (b := List.replicate (27 : Int).toNat 0) rfl rfl).symm) (s149.new np150 (.lst (([V.int 46, V.int n143]) ++ ((List.replicate (27 : Int).toNat 0).map V.int))))
                          refine t_tail (xs := (ws.set (2 : Int).toNat n141)) (ys := (([46, n143]) ++ (List.replicate (27 : Int).toNat 0))) (s151.mem 4 rfl) (s151.mem 0 rfl) (s151.apart 4 0 rfl rfl (by decide)) (vv 5 rfl) vc (by walk_at "side") (by walk_at "side") (by walk_at "side") ?_
                          have s152 : Hs (fun _ => False) H Z0 [c p150 (.lst ((([46, n143]) ++ (List.replicate (27 : Int).toNat 0)).map V.int)), c p148 (.lst ((List.replicate (27 : Int).toNat 0).map V.int)), c p146 (.lst ([V.int 0])), c p144 (.lst ([V.int 46, V.int n143])), c p132 (.lst (((ws.set (2 : Int).toNat n141).take (3 : Int).toNat ++ (([46, n143]) ++ (List.replicate (27 : Int).toNat 0)) : List Int).map V.int)), c p129 (.lst (((List.range (29 : Int).toNat).map (fun (j_ : Nat) => 32 + ((n62 / (7 + (j_ : Int))) % 95))).map V.int)), c p123 (.lst ([V.int n120, V.int n121, V.int n122])), c p63 (.lst ((((encE t_8 n22).set (n72 % 32).toNat (gi ([0, 1, 28, 29, 31, 32, 37, 46, 47, 126, 127, n73]) n76)).set ((n62 / 3072) % 32).toNat n109).map V.int)), c p100 (.lst ((List.replicate (32 : Int).toNat 0).map V.int)), c p98 (.lst ([V.int 0])), c p_23 (.lst ((encE t_8 n22).map V.int)), c p74 (.lst ([V.int 0, V.int 1, V.int 28, V.int 29, V.int 31, V.int 32, V.int 37, V.int 46, V.int 47, V.int 126, V.int 127, V.int n73])), c p69 (.lst ([V.int n65, V.int 2, V.int n66, V.int n67, V.int n68])), fz p60 (.tup ([V.str (sO t_8), V.int n22])), fz p_52 (.tup ([V.str (sO (nmE (encE t_8 n22))), V.int (valN (cutI (encE t_8 n22) 0 2))])), c p_34 (.lst ((octL t_8 n22).map V.int)), c p19 (.lst ([V.int 1, V.int 255, V.int 256, V.int 65535, V.int n18])), c p5 (.lst ([V.int 32, V.int 28])), c p3 (.lst ([V.int 32, V.int 28])), sq K a (ns.map V.int)] _ _ := s151.wr 4 (.lst (((ws.set (2 : Int).toNat n141).take (3 : Int).toNat ++ (([46, n143]) ++ (List.replicate (27 : Int).toNat 0)) : List Int).map V.int)) rfl
                          refine s_nxs ?_
                          refine c_ret ?_
                          refine c_andW (pP := true = true) (qQ := true = true) s152 (fun Q' kQ => ?_) (fun H154 Z156 s155 h153 Q' kQ => ?_) (fun H157 Z159 s158 => ?_)
                          · -- the first part
                            refine c_callx ?_
                            refine c_cons ?_
                            refine (vv 5 rfl) _ ?_
                            refine c_nil ?_
                            obtain ⟨G160, g161, k162⟩ := s152.giv [4] [0, 1, 2, 3, 5, 6, 7, 8, 9, 10, 11, 12, 13, 14, 15, 16, 17, 18, 19] rfl
                            refine ⟨p132, ((ws.set (2 : Int).toNat n141).take (3 : Int).toNat ++ (([46, n143]) ++ (List.replicate (27 : Int).toNat 0)) : List Int), rfl, (by first | assumption | walk_at "len32" | omega), (by walk_at "bd"), G160, _, g161, fun H163 Z164 r165 => ?_⟩
                            have s166 : Hs (fun _ => False) H Z0 [c p132 (.lst (((ws.set (2 : Int).toNat n141).take (3 : Int).toNat ++ (([46, n143]) ++ (List.replicate (27 : Int).toNat 0)) : List Int).map V.int)), c p150 (.lst ((([46, n143]) ++ (List.replicate (27 : Int).toNat 0)).map V.int)), c p148 (.lst ((List.replicate (27 : Int).toNat 0).map V.int)), c p146 (.lst ([V.int 0])), c p144 (.lst ([V.int 46, V.int n143])), c p129 (.lst (((List.range (29 : Int).toNat).map (fun (j_ : Nat) => 32 + ((n62 / (7 + (j_ : Int))) % 95))).map V.int)), c p123 (.lst ([V.int n120, V.int n121, V.int n122])), c p63 (.lst ((((encE t_8 n22).set (n72 % 32).toNat (gi ([0, 1, 28, 29, 31, 32, 37, 46, 47, 126, 127, n73]) n76)).set ((n62 / 3072) % 32).toNat n109).map V.int)), c p100 (.lst ((List.replicate (32 : Int).toNat 0).map V.int)), c p98 (.lst ([V.int 0])), c p_23 (.lst ((encE t_8 n22).map V.int)), c p74 (.lst ([V.int 0, V.int 1, V.int 28, V.int 29, V.int 31, V.int 32, V.int 37, V.int 46, V.int 47, V.int 126, V.int 127, V.int n73])), c p69 (.lst ([V.int n65, V.int 2, V.int n66, V.int n67, V.int n68])), fz p60 (.tup ([V.str (sO t_8), V.int n22])), fz p_52 (.tup ([V.str (sO (nmE (encE t_8 n22))), V.int (valN (cutI (encE t_8 n22) 0 2))])), c p_34 (.lst ((octL t_8 n22).map V.int)), c p19 (.lst ([V.int 1, V.int 255, V.int 256, V.int 65535, V.int n18])), c p5 (.lst ([V.int 32, V.int 28])), c p3 (.lst ([V.int 32, V.int 28])), sq K a (ns.map V.int)] _ _ := k162 _ _ _ r165
                            exact kQb2 _ kQ _ _ (s166.pick [1, 2, 3, 4, 0, 5, 6, 7, 8, 9, 10, 11, 12, 13, 14, 15, 16, 17, 18, 19] (by decide) rfl)
                          · -- the second part
                            refine c_callx ?_
                            refine c_cons ?_
                            obtain ⟨n167, en167⟩ : ∃ n_ : Int, n_ = (rowG ns (3 : Int)) := ⟨_, rfl⟩
                            have en1670 : 0 ≤ n167 := by rw [en167]; exact rowG_nn _ _
                            refine (vis (vcall (va (vv 0 rfl) (va vc va0)) (fun _ kC => ⟨a, ns, 3, rfl, (by walk_at "side"), s155.giv1 [19] rfl, kC⟩)) (congrArg V.int en167.symm)) _ ?_
                            refine c_nil ?_
                            obtain ⟨G168, g169, k170⟩ := s155.giv [] [0, 1, 2, 3, 4, 5, 6, 7, 8, 9, 10, 11, 12, 13, 14, 15, 16, 17, 18, 19] rfl
                            refine ⟨n167, rfl, (by walk_at "side"), G168, _, g169, fun H171 Z172 r173 => ?_⟩
                            have s174 : Hs (fun _ => False) H Z0 [c p150 (.lst ((([46, n143]) ++ (List.replicate (27 : Int).toNat 0)).map V.int)), c p148 (.lst ((List.replicate (27 : Int).toNat 0).map V.int)), c p146 (.lst ([V.int 0])), c p144 (.lst ([V.int 46, V.int n143])), c p132 (.lst (((ws.set (2 : Int).toNat n141).take (3 : Int).toNat ++ (([46, n143]) ++ (List.replicate (27 : Int).toNat 0)) : List Int).map V.int)), c p129 (.lst (((List.range (29 : Int).toNat).map (fun (j_ : Nat) => 32 + ((n62 / (7 + (j_ : Int))) % 95))).map V.int)), c p123 (.lst ([V.int n120, V.int n121, V.int n122])), c p63 (.lst ((((encE t_8 n22).set (n72 % 32).toNat (gi ([0, 1, 28, 29, 31, 32, 37, 46, 47, 126, 127, n73]) n76)).set ((n62 / 3072) % 32).toNat n109).map V.int)), c p100 (.lst ((List.replicate (32 : Int).toNat 0).map V.int)), c p98 (.lst ([V.int 0])), c p_23 (.lst ((encE t_8 n22).map V.int)), c p74 (.lst ([V.int 0, V.int 1, V.int 28, V.int 29, V.int 31, V.int 32, V.int 37, V.int 46, V.int 47, V.int 126, V.int 127, V.int n73])), c p69 (.lst ([V.int n65, V.int 2, V.int n66, V.int n67, V.int n68])), fz p60 (.tup ([V.str (sO t_8), V.int n22])), fz p_52 (.tup ([V.str (sO (nmE (encE t_8 n22))), V.int (valN (cutI (encE t_8 n22) 0 2))])), c p_34 (.lst ((octL t_8 n22).map V.int)), c p19 (.lst ([V.int 1, V.int 255, V.int 256, V.int 65535, V.int n18])), c p5 (.lst ([V.int 32, V.int 28])), c p3 (.lst ([V.int 32, V.int 28])), sq K a (ns.map V.int)] _ _ := k170 _ _ _ r173
                            subst en167
                            exact kQb2 _ kQ _ _ (s174.pick [0, 1, 2, 3, 4, 5, 6, 7, 8, 9, 10, 11, 12, 13, 14, 15, 16, 17, 18, 19] (by decide) rfl)
                          · -- on
                            exact fin (kq _) (by first | rfl | (simp_all; done))
                        · -- else line 150
                          refine s_nxs ?_
                          refine c_ret ?_
                          refine c_andW (pP := true = true) (qQ := true = true) sI (fun Q' kQ => ?_) (fun H176 Z178 s177 h175 Q' kQ => ?_) (fun H179 Z181 s180 => ?_)
                          · -- the first part
                            refine c_callx ?_
                            refine c_cons ?_
                            refine (vv 5 rfl) _ ?_
                            refine c_nil ?_
                            obtain ⟨G182, g183, k184⟩ := sI.giv [0] [1, 2, 3, 4, 5, 6, 7, 8, 9, 10, 11, 12, 13, 14, 15] rfl
                            refine ⟨p132, ws, rfl, (by first | assumption | walk_at "len32" | omega), (by walk_at "bd"), G182, _, g183, fun H185 Z186 r187 => ?_⟩
                            have s188 : Hs (fun _ => False) H Z0 [c p132 (.lst (ws.map V.int)), c p129 (.lst (((List.range (29 : Int).toNat).map (fun (j_ : Nat) => 32 + ((n62 / (7 + (j_ : Int))) % 95))).map V.int)), c p123 (.lst ([V.int n120, V.int n121, V.int n122])), c p63 (.lst ((((encE t_8 n22).set (n72 % 32).toNat (gi ([0, 1, 28, 29, 31, 32, 37, 46, 47, 126, 127, n73]) n76)).set ((n62 / 3072) % 32).toNat n109).map V.int)), c p100 (.lst ((List.replicate (32 : Int).toNat 0).map V.int)), c p98 (.lst ([V.int 0])), c p_23 (.lst ((encE t_8 n22).map V.int)), c p74 (.lst ([V.int 0, V.int 1, V.int 28, V.int 29, V.int 31, V.int 32, V.int 37, V.int 46, V.int 47, V.int 126, V.int 127, V.int n73])), c p69 (.lst ([V.int n65, V.int 2, V.int n66, V.int n67, V.int n68])), fz p60 (.tup ([V.str (sO t_8), V.int n22])), fz p_52 (.tup ([V.str (sO (nmE (encE t_8 n22))), V.int (valN (cutI (encE t_8 n22) 0 2))])), c p_34 (.lst ((octL t_8 n22).map V.int)), c p19 (.lst ([V.int 1, V.int 255, V.int 256, V.int 65535, V.int n18])), c p5 (.lst ([V.int 32, V.int 28])), c p3 (.lst ([V.int 32, V.int 28])), sq K a (ns.map V.int)] _ _ := k184 _ _ _ r187
                            exact kQb2 _ kQ _ _ (s188.pick [0, 1, 2, 3, 4, 5, 6, 7, 8, 9, 10, 11, 12, 13, 14, 15] (by decide) rfl)
                          · -- the second part
                            refine c_callx ?_
                            refine c_cons ?_
                            obtain ⟨n189, en189⟩ : ∃ n_ : Int, n_ = (rowG ns (3 : Int)) := ⟨_, rfl⟩
                            have en1890 : 0 ≤ n189 := by rw [en189]; exact rowG_nn _ _
                            refine (vis (vcall (va (vv 0 rfl) (va vc va0)) (fun _ kC => ⟨a, ns, 3, rfl, (by walk_at "side"), s177.giv1 [15] rfl, kC⟩)) (congrArg V.int en189.symm)) _ ?_
                            refine c_nil ?_
                            obtain ⟨G190, g191, k192⟩ := s177.giv [] [0, 1, 2, 3, 4, 5, 6, 7, 8, 9, 10, 11, 12, 13, 14, 15] rfl
                            refine ⟨n189, rfl, (by walk_at "side"), G190, _, g191, fun H193 Z194 r195 => ?_⟩
                            have s196 : Hs (fun _ => False) H Z0 [c p132 (.lst (ws.map V.int)), c p129 (.lst (((List.range (29 : Int).toNat).map (fun (j_ : Nat) => 32 + ((n62 / (7 + (j_ : Int))) % 95))).map V.int)), c p123 (.lst ([V.int n120, V.int n121, V.int n122])), c p63 (.lst ((((encE t_8 n22).set (n72 % 32).toNat (gi ([0, 1, 28, 29, 31, 32, 37, 46, 47, 126, 127, n73]) n76)).set ((n62 / 3072) % 32).toNat n109).map V.int)), c p100 (.lst ((List.replicate (32 : Int).toNat 0).map V.int)), c p98 (.lst ([V.int 0])), c p_23 (.lst ((encE t_8 n22).map V.int)), c p74 (.lst ([V.int 0, V.int 1, V.int 28, V.int 29, V.int 31, V.int 32, V.int 37, V.int 46, V.int 47, V.int 126, V.int 127, V.int n73])), c p69 (.lst ([V.int n65, V.int 2, V.int n66, V.int n67, V.int n68])), fz p60 (.tup ([V.str (sO t_8), V.int n22])), fz p_52 (.tup ([V.str (sO (nmE (encE t_8 n22))), V.int (valN (cutI (encE t_8 n22) 0 2))])), c p_34 (.lst ((octL t_8 n22).map V.int)), c p19 (.lst ([V.int 1, V.int 255, V.int 256, V.int 65535, V.int n18])), c p5 (.lst ([V.int 32, V.int 28])), c p3 (.lst ([V.int 32, V.int 28])), sq K a (ns.map V.int)] _ _ := k192 _ _ _ r195
                            subst en189
                            exact kQb2 _ kQ _ _ (s196.pick [0, 1, 2, 3, 4, 5, 6, 7, 8, 9, 10, 11, 12, 13, 14, 15] (by decide) rfl)
                          · -- on
                            exact fin (kq _) (by first | rfl | (simp_all; done))
end
end X
namespace X
open PySem PySem.Spec PyProof.Rows L2 G
theorem all_mk {l : PySem.W.OpenLaw} {w : World} {K : PySem.W.Frag} {h : Heap} {mg : Str → Option Value} {fa : Addr} {od_number_octets an_number_octets : Option Addr} {sl_number_octets : Array (Option Value)} {oc_number_octets kV_number_octets dc_number_octets pm_number_octets cd_number_octets ct_number_octets : Value} {a_number_octets : Addr}
    {od_number_of an_number_of : Option Addr} {sl_number_of : Array (Option Value)} {oc_number_of kV_number_of dc_number_of pm_number_of cd_number_of ct_number_of : Value} {a_number_of : Addr}
    {od_is_code an_is_code : Option Addr} {sl_is_code : Array (Option Value)} {oc_is_code kV_is_code dc_is_code pm_is_code cd_is_code ct_is_code : Value} {a_is_code : Addr}
    {od_is_text an_is_text : Option Addr} {sl_is_text : Array (Option Value)} {oc_is_text kV_is_text dc_is_text pm_is_text cd_is_text ct_is_text : Value} {a_is_text : Addr}
    {od_octets_of an_octets_of : Option Addr} {sl_octets_of : Array (Option Value)} {oc_octets_of kV_octets_of dc_octets_of pm_octets_of cd_octets_of ct_octets_of : Value} {a_octets_of : Addr}
    {od_char_of an_char_of : Option Addr} {sl_char_of : Array (Option Value)} {oc_char_of kV_char_of dc_char_of pm_char_of cd_char_of ct_char_of : Value} {a_char_of : Addr}
    {od_text_of an_text_of : Option Addr} {sl_text_of : Array (Option Value)} {oc_text_of kV_text_of dc_text_of pm_text_of cd_text_of ct_text_of : Value} {a_text_of : Addr}
    {od_is_name an_is_name : Option Addr} {sl_is_name : Array (Option Value)} {oc_is_name kV_is_name dc_is_name pm_is_name cd_is_name ct_is_name : Value} {a_is_name : Addr}
    {od_encode_entry an_encode_entry : Option Addr} {sl_encode_entry : Array (Option Value)} {oc_encode_entry kV_encode_entry dc_encode_entry pm_encode_entry cd_encode_entry ct_encode_entry : Value} {a_encode_entry : Addr}
    {od_decode_entry an_decode_entry : Option Addr} {sl_decode_entry : Array (Option Value)} {oc_decode_entry kV_decode_entry dc_decode_entry pm_decode_entry cd_decode_entry ct_decode_entry : Value} {a_decode_entry : Addr}
    {od__law_row an__law_row : Option Addr} {sl__law_row : Array (Option Value)} {oc__law_row kV__law_row dc__law_row pm__law_row cd__law_row ct__law_row : Value} {a__law_row : Addr}
    {od__law_is_integer an__law_is_integer : Option Addr} {sl__law_is_integer : Array (Option Value)} {oc__law_is_integer kV__law_is_integer dc__law_is_integer pm__law_is_integer cd__law_is_integer ct__law_is_integer : Value} {a__law_is_integer : Addr}
    {od__law_char an__law_char : Option Addr} {sl__law_char : Array (Option Value)} {oc__law_char kV__law_char dc__law_char pm__law_char cd__law_char ct__law_char : Value} {a__law_char : Addr}
    {od__law_text an__law_text : Option Addr} {sl__law_text : Array (Option Value)} {oc__law_text kV__law_text dc__law_text pm__law_text cd__law_text ct__law_text : Value} {a__law_text : Addr}
    {od__law_name an__law_name : Option Addr} {sl__law_name : Array (Option Value)} {oc__law_name kV__law_name dc__law_name pm__law_name cd__law_name ct__law_name : Value} {a__law_name : Addr}
    {od__law_octets an__law_octets : Option Addr} {sl__law_octets : Array (Option Value)} {oc__law_octets kV__law_octets dc__law_octets pm__law_octets cd__law_octets ct__law_octets : Value} {a__law_octets : Addr}
    {od__law_good an__law_good : Option Addr} {sl__law_good : Array (Option Value)} {oc__law_good kV__law_good dc__law_good pm__law_good cd__law_good ct__law_good : Value} {a__law_good : Addr}
    {od__law_reads an__law_reads : Option Addr} {sl__law_reads : Array (Option Value)} {oc__law_reads kV__law_reads dc__law_reads pm__law_reads cd__law_reads ct__law_reads : Value} {a__law_reads : Addr}
    {od__law_is an__law_is : Option Addr} {sl__law_is : Array (Option Value)} {oc__law_is kV__law_is dc__law_is pm__law_is cd__law_is ct__law_is : Value} {a__law_is : Addr}
    {od__law_names an__law_names : Option Addr} {sl__law_names : Array (Option Value)} {oc__law_names kV__law_names dc__law_names pm__law_names cd__law_names ct__law_names : Value} {a__law_names : Addr}
    {od_law an_law : Option Addr} {sl_law : Array (Option Value)} {oc_law kV_law dc_law pm_law cd_law ct_law : Value} {a_law : Addr}
    {t_ENTRY_OCTETS : Tok}
    {t_HIGH : Tok}
    {t_LOW : Tok}
    {t_MOST_SIGNS : Tok}
    {t_NAME_START : Tok}
    {t_PERCENT : Tok} (X : K.In h) (G : h.Ns mainGlobals mg) (hfa : mg "law" = some (.ref fa))
    (k_ENTRY_OCTETS : PySem.W.nsIn K mainGlobals "ENTRY_OCTETS" = some (some (.int 32 t_ENTRY_OCTETS)))
    (k_HIGH : PySem.W.nsIn K mainGlobals "HIGH" = some (some (.str ("&'()*+,-./0123456789:;<=>?@ABCDEFGHIJKLMNOPQRSTUVWXYZ[\\]^_`abcdefghijklmnopqrstuvwxyz{|}~" : Str) t_HIGH)))
    (k_LOW : PySem.W.nsIn K mainGlobals "LOW" = some (some (.str (" !\"#$" : Str) t_LOW)))
    (k_MOST_SIGNS : PySem.W.nsIn K mainGlobals "MOST_SIGNS" = some (some (.int 28 t_MOST_SIGNS)))
    (k_NAME_START : PySem.W.nsIn K mainGlobals "NAME_START" = some (some (.int 3 t_NAME_START)))
    (k_PERCENT : PySem.W.nsIn K mainGlobals "PERCENT" = some (some (.int 37 t_PERCENT)))
    (z_all : PySem.W.nsIn K mainGlobals "all" = some none)
    (z_any : PySem.W.nsIn K mainGlobals "any" = some none)
    (z_bool : PySem.W.nsIn K mainGlobals "bool" = some none)
    (z_int : PySem.W.nsIn K mainGlobals "int" = some none)
    (z_isinstance : PySem.W.nsIn K mainGlobals "isinstance" = some none)
    (z_len : PySem.W.nsIn K mainGlobals "len" = some none)
    (z_list : PySem.W.nsIn K mainGlobals "list" = some none)
    (z_min : PySem.W.nsIn K mainGlobals "min" = some none)
    (z_ord : PySem.W.nsIn K mainGlobals "ord" = some none)
    (z_range : PySem.W.nsIn K mainGlobals "range" = some none)
    (z_reversed : PySem.W.nsIn K mainGlobals "reversed" = some none)
    (z_str : PySem.W.nsIn K mainGlobals "str" = some none)
    (z_tuple : PySem.W.nsIn K mainGlobals "tuple" = some none)
    (h1_number_octets : PySem.W.nsIn K mainGlobals "number_octets" = some (some (.ref a_number_octets)))
    (h3_number_octets : K.lookup a_number_octets = some ⟨oc_number_octets, od_number_octets, .func (PySem.W.fnOf "number_octets" "number_octets" (defArgs st_number_octets) (defBody st_number_octets) (defScope st_number_octets) .none kV_number_octets dc_number_octets pm_number_octets an_number_octets cd_number_octets ct_number_octets), sl_number_octets⟩)
    (h4_number_octets : PySem.W.codeIn K cd_number_octets "number_octets" = true)
    (h5_number_octets : PySem.W.keepIn K (.ref a_number_octets) = true)
    (h1_number_of : PySem.W.nsIn K mainGlobals "number_of" = some (some (.ref a_number_of)))
    (h3_number_of : K.lookup a_number_of = some ⟨oc_number_of, od_number_of, .func (PySem.W.fnOf "number_of" "number_of" (defArgs st_number_of) (defBody st_number_of) (defScope st_number_of) .none kV_number_of dc_number_of pm_number_of an_number_of cd_number_of ct_number_of), sl_number_of⟩)
    (h4_number_of : PySem.W.codeIn K cd_number_of "number_of" = true)
    (h5_number_of : PySem.W.keepIn K (.ref a_number_of) = true)
    (h1_is_code : PySem.W.nsIn K mainGlobals "is_code" = some (some (.ref a_is_code)))
    (h3_is_code : K.lookup a_is_code = some ⟨oc_is_code, od_is_code, .func (PySem.W.fnOf "is_code" "is_code" (defArgs st_is_code) (defBody st_is_code) (defScope st_is_code) .none kV_is_code dc_is_code pm_is_code an_is_code cd_is_code ct_is_code), sl_is_code⟩)
    (h4_is_code : PySem.W.codeIn K cd_is_code "is_code" = true)
    (h5_is_code : PySem.W.keepIn K (.ref a_is_code) = true)
    (h1_is_text : PySem.W.nsIn K mainGlobals "is_text" = some (some (.ref a_is_text)))
    (h3_is_text : K.lookup a_is_text = some ⟨oc_is_text, od_is_text, .func (PySem.W.fnOf "is_text" "is_text" (defArgs st_is_text) (defBody st_is_text) (defScope st_is_text) .none kV_is_text dc_is_text pm_is_text an_is_text cd_is_text ct_is_text), sl_is_text⟩)
    (h4_is_text : PySem.W.codeIn K cd_is_text "is_text" = true)
    (h5_is_text : PySem.W.keepIn K (.ref a_is_text) = true)
    (h1_octets_of : PySem.W.nsIn K mainGlobals "octets_of" = some (some (.ref a_octets_of)))
    (h3_octets_of : K.lookup a_octets_of = some ⟨oc_octets_of, od_octets_of, .func (PySem.W.fnOf "octets_of" "octets_of" (defArgs st_octets_of) (defBody st_octets_of) (defScope st_octets_of) .none kV_octets_of dc_octets_of pm_octets_of an_octets_of cd_octets_of ct_octets_of), sl_octets_of⟩)
    (h4_octets_of : PySem.W.codeIn K cd_octets_of "octets_of" = true)
    (h5_octets_of : PySem.W.keepIn K (.ref a_octets_of) = true)
    (h1_char_of : PySem.W.nsIn K mainGlobals "char_of" = some (some (.ref a_char_of)))
    (h3_char_of : K.lookup a_char_of = some ⟨oc_char_of, od_char_of, .func (PySem.W.fnOf "char_of" "char_of" (defArgs st_char_of) (defBody st_char_of) (defScope st_char_of) .none kV_char_of dc_char_of pm_char_of an_char_of cd_char_of ct_char_of), sl_char_of⟩)
    (h4_char_of : PySem.W.codeIn K cd_char_of "char_of" = true)
    (h5_char_of : PySem.W.keepIn K (.ref a_char_of) = true)
    (h1_text_of : PySem.W.nsIn K mainGlobals "text_of" = some (some (.ref a_text_of)))
    (h3_text_of : K.lookup a_text_of = some ⟨oc_text_of, od_text_of, .func (PySem.W.fnOf "text_of" "text_of" (defArgs st_text_of) (defBody st_text_of) (defScope st_text_of) .none kV_text_of dc_text_of pm_text_of an_text_of cd_text_of ct_text_of), sl_text_of⟩)
    (h4_text_of : PySem.W.codeIn K cd_text_of "text_of" = true)
    (h5_text_of : PySem.W.keepIn K (.ref a_text_of) = true)
    (h1_is_name : PySem.W.nsIn K mainGlobals "is_name" = some (some (.ref a_is_name)))
    (h3_is_name : K.lookup a_is_name = some ⟨oc_is_name, od_is_name, .func (PySem.W.fnOf "is_name" "is_name" (defArgs st_is_name) (defBody st_is_name) (defScope st_is_name) .none kV_is_name dc_is_name pm_is_name an_is_name cd_is_name ct_is_name), sl_is_name⟩)
    (h4_is_name : PySem.W.codeIn K cd_is_name "is_name" = true)
    (h5_is_name : PySem.W.keepIn K (.ref a_is_name) = true)
    (h1_encode_entry : PySem.W.nsIn K mainGlobals "encode_entry" = some (some (.ref a_encode_entry)))
    (h3_encode_entry : K.lookup a_encode_entry = some ⟨oc_encode_entry, od_encode_entry, .func (PySem.W.fnOf "encode_entry" "encode_entry" (defArgs st_encode_entry) (defBody st_encode_entry) (defScope st_encode_entry) .none kV_encode_entry dc_encode_entry pm_encode_entry an_encode_entry cd_encode_entry ct_encode_entry), sl_encode_entry⟩)
    (h4_encode_entry : PySem.W.codeIn K cd_encode_entry "encode_entry" = true)
    (h5_encode_entry : PySem.W.keepIn K (.ref a_encode_entry) = true)
    (h1_decode_entry : PySem.W.nsIn K mainGlobals "decode_entry" = some (some (.ref a_decode_entry)))
    (h3_decode_entry : K.lookup a_decode_entry = some ⟨oc_decode_entry, od_decode_entry, .func (PySem.W.fnOf "decode_entry" "decode_entry" (defArgs st_decode_entry) (defBody st_decode_entry) (defScope st_decode_entry) .none kV_decode_entry dc_decode_entry pm_decode_entry an_decode_entry cd_decode_entry ct_decode_entry), sl_decode_entry⟩)
    (h4_decode_entry : PySem.W.codeIn K cd_decode_entry "decode_entry" = true)
    (h5_decode_entry : PySem.W.keepIn K (.ref a_decode_entry) = true)
    (h1__law_row : PySem.W.nsIn K mainGlobals "_law_row" = some (some (.ref a__law_row)))
    (h3__law_row : K.lookup a__law_row = some ⟨oc__law_row, od__law_row, .func (PySem.W.fnOf "_law_row" "_law_row" (defArgs st__law_row) (defBody st__law_row) (defScope st__law_row) .none kV__law_row dc__law_row pm__law_row an__law_row cd__law_row ct__law_row), sl__law_row⟩)
    (h4__law_row : PySem.W.codeIn K cd__law_row "_law_row" = true)
    (h5__law_row : PySem.W.keepIn K (.ref a__law_row) = true)
    (h1__law_is_integer : PySem.W.nsIn K mainGlobals "_law_is_integer" = some (some (.ref a__law_is_integer)))
    (h3__law_is_integer : K.lookup a__law_is_integer = some ⟨oc__law_is_integer, od__law_is_integer, .func (PySem.W.fnOf "_law_is_integer" "_law_is_integer" (defArgs st__law_is_integer) (defBody st__law_is_integer) (defScope st__law_is_integer) .none kV__law_is_integer dc__law_is_integer pm__law_is_integer an__law_is_integer cd__law_is_integer ct__law_is_integer), sl__law_is_integer⟩)
    (h4__law_is_integer : PySem.W.codeIn K cd__law_is_integer "_law_is_integer" = true)
    (h5__law_is_integer : PySem.W.keepIn K (.ref a__law_is_integer) = true)
    (h1__law_char : PySem.W.nsIn K mainGlobals "_law_char" = some (some (.ref a__law_char)))
    (h3__law_char : K.lookup a__law_char = some ⟨oc__law_char, od__law_char, .func (PySem.W.fnOf "_law_char" "_law_char" (defArgs st__law_char) (defBody st__law_char) (defScope st__law_char) .none kV__law_char dc__law_char pm__law_char an__law_char cd__law_char ct__law_char), sl__law_char⟩)
    (h4__law_char : PySem.W.codeIn K cd__law_char "_law_char" = true)
    (h5__law_char : PySem.W.keepIn K (.ref a__law_char) = true)
    (h1__law_text : PySem.W.nsIn K mainGlobals "_law_text" = some (some (.ref a__law_text)))
    (h3__law_text : K.lookup a__law_text = some ⟨oc__law_text, od__law_text, .func (PySem.W.fnOf "_law_text" "_law_text" (defArgs st__law_text) (defBody st__law_text) (defScope st__law_text) .none kV__law_text dc__law_text pm__law_text an__law_text cd__law_text ct__law_text), sl__law_text⟩)
    (h4__law_text : PySem.W.codeIn K cd__law_text "_law_text" = true)
    (h5__law_text : PySem.W.keepIn K (.ref a__law_text) = true)
    (h1__law_name : PySem.W.nsIn K mainGlobals "_law_name" = some (some (.ref a__law_name)))
    (h3__law_name : K.lookup a__law_name = some ⟨oc__law_name, od__law_name, .func (PySem.W.fnOf "_law_name" "_law_name" (defArgs st__law_name) (defBody st__law_name) (defScope st__law_name) .none kV__law_name dc__law_name pm__law_name an__law_name cd__law_name ct__law_name), sl__law_name⟩)
    (h4__law_name : PySem.W.codeIn K cd__law_name "_law_name" = true)
    (h5__law_name : PySem.W.keepIn K (.ref a__law_name) = true)
    (h1__law_octets : PySem.W.nsIn K mainGlobals "_law_octets" = some (some (.ref a__law_octets)))
    (h3__law_octets : K.lookup a__law_octets = some ⟨oc__law_octets, od__law_octets, .func (PySem.W.fnOf "_law_octets" "_law_octets" (defArgs st__law_octets) (defBody st__law_octets) (defScope st__law_octets) .none kV__law_octets dc__law_octets pm__law_octets an__law_octets cd__law_octets ct__law_octets), sl__law_octets⟩)
    (h4__law_octets : PySem.W.codeIn K cd__law_octets "_law_octets" = true)
    (h5__law_octets : PySem.W.keepIn K (.ref a__law_octets) = true)
    (h1__law_good : PySem.W.nsIn K mainGlobals "_law_good" = some (some (.ref a__law_good)))
    (h3__law_good : K.lookup a__law_good = some ⟨oc__law_good, od__law_good, .func (PySem.W.fnOf "_law_good" "_law_good" (defArgs st__law_good) (defBody st__law_good) (defScope st__law_good) .none kV__law_good dc__law_good pm__law_good an__law_good cd__law_good ct__law_good), sl__law_good⟩)
    (h4__law_good : PySem.W.codeIn K cd__law_good "_law_good" = true)
    (h5__law_good : PySem.W.keepIn K (.ref a__law_good) = true)
    (h1__law_reads : PySem.W.nsIn K mainGlobals "_law_reads" = some (some (.ref a__law_reads)))
    (h3__law_reads : K.lookup a__law_reads = some ⟨oc__law_reads, od__law_reads, .func (PySem.W.fnOf "_law_reads" "_law_reads" (defArgs st__law_reads) (defBody st__law_reads) (defScope st__law_reads) .none kV__law_reads dc__law_reads pm__law_reads an__law_reads cd__law_reads ct__law_reads), sl__law_reads⟩)
    (h4__law_reads : PySem.W.codeIn K cd__law_reads "_law_reads" = true)
    (h5__law_reads : PySem.W.keepIn K (.ref a__law_reads) = true)
    (h1__law_is : PySem.W.nsIn K mainGlobals "_law_is" = some (some (.ref a__law_is)))
    (h3__law_is : K.lookup a__law_is = some ⟨oc__law_is, od__law_is, .func (PySem.W.fnOf "_law_is" "_law_is" (defArgs st__law_is) (defBody st__law_is) (defScope st__law_is) .none kV__law_is dc__law_is pm__law_is an__law_is cd__law_is ct__law_is), sl__law_is⟩)
    (h4__law_is : PySem.W.codeIn K cd__law_is "_law_is" = true)
    (h5__law_is : PySem.W.keepIn K (.ref a__law_is) = true)
    (h1__law_names : PySem.W.nsIn K mainGlobals "_law_names" = some (some (.ref a__law_names)))
    (h3__law_names : K.lookup a__law_names = some ⟨oc__law_names, od__law_names, .func (PySem.W.fnOf "_law_names" "_law_names" (defArgs st__law_names) (defBody st__law_names) (defScope st__law_names) .none kV__law_names dc__law_names pm__law_names an__law_names cd__law_names ct__law_names), sl__law_names⟩)
    (h4__law_names : PySem.W.codeIn K cd__law_names "_law_names" = true)
    (h5__law_names : PySem.W.keepIn K (.ref a__law_names) = true)
    (h1_law : PySem.W.nsIn K mainGlobals "law" = some (some (.ref a_law)))
    (h3_law : K.lookup a_law = some ⟨oc_law, od_law, .func (PySem.W.fnOf "law" "law" (defArgs st_law) (defBody st_law) (defScope st_law) .none kV_law dc_law pm_law an_law cd_law ct_law), sl_law⟩)
    (h4_law : PySem.W.codeIn K cd_law "law" = true)
    (h5_law : PySem.W.keepIn K (.ref a_law) = true)
    : ∃ fd : FuncData, (∀ (s : Shared) (v : Value), BindsTo s fd ⟨[v], []⟩ [("_law_script", v)]) ∧ ∀ base : Heap, K.In base → base.Ns mainGlobals mg → FnOk l.prog w K mg base CX0 6 fa fd ["_law_script"] (sp_law0 K) := by
  have e := hfa.symm.trans (PySem.W.mg_of X G h1_law)
  cases e
  let A : Ads := ⟨a_number_octets, PySem.W.fnOf "number_octets" "number_octets" (defArgs st_number_octets) (defBody st_number_octets) (defScope st_number_octets) .none kV_number_octets dc_number_octets pm_number_octets an_number_octets cd_number_octets ct_number_octets, a_number_of, PySem.W.fnOf "number_of" "number_of" (defArgs st_number_of) (defBody st_number_of) (defScope st_number_of) .none kV_number_of dc_number_of pm_number_of an_number_of cd_number_of ct_number_of, a_is_code, PySem.W.fnOf "is_code" "is_code" (defArgs st_is_code) (defBody st_is_code) (defScope st_is_code) .none kV_is_code dc_is_code pm_is_code an_is_code cd_is_code ct_is_code, a_is_text, PySem.W.fnOf "is_text" "is_text" (defArgs st_is_text) (defBody st_is_text) (defScope st_is_text) .none kV_is_text dc_is_text pm_is_text an_is_text cd_is_text ct_is_text, a_octets_of, PySem.W.fnOf "octets_of" "octets_of" (defArgs st_octets_of) (defBody st_octets_of) (defScope st_octets_of) .none kV_octets_of dc_octets_of pm_octets_of an_octets_of cd_octets_of ct_octets_of, a_char_of, PySem.W.fnOf "char_of" "char_of" (defArgs st_char_of) (defBody st_char_of) (defScope st_char_of) .none kV_char_of dc_char_of pm_char_of an_char_of cd_char_of ct_char_of, a_text_of, PySem.W.fnOf "text_of" "text_of" (defArgs st_text_of) (defBody st_text_of) (defScope st_text_of) .none kV_text_of dc_text_of pm_text_of an_text_of cd_text_of ct_text_of, a_is_name, PySem.W.fnOf "is_name" "is_name" (defArgs st_is_name) (defBody st_is_name) (defScope st_is_name) .none kV_is_name dc_is_name pm_is_name an_is_name cd_is_name ct_is_name, a_encode_entry, PySem.W.fnOf "encode_entry" "encode_entry" (defArgs st_encode_entry) (defBody st_encode_entry) (defScope st_encode_entry) .none kV_encode_entry dc_encode_entry pm_encode_entry an_encode_entry cd_encode_entry ct_encode_entry, a_decode_entry, PySem.W.fnOf "decode_entry" "decode_entry" (defArgs st_decode_entry) (defBody st_decode_entry) (defScope st_decode_entry) .none kV_decode_entry dc_decode_entry pm_decode_entry an_decode_entry cd_decode_entry ct_decode_entry, a__law_row, PySem.W.fnOf "_law_row" "_law_row" (defArgs st__law_row) (defBody st__law_row) (defScope st__law_row) .none kV__law_row dc__law_row pm__law_row an__law_row cd__law_row ct__law_row, a__law_is_integer, PySem.W.fnOf "_law_is_integer" "_law_is_integer" (defArgs st__law_is_integer) (defBody st__law_is_integer) (defScope st__law_is_integer) .none kV__law_is_integer dc__law_is_integer pm__law_is_integer an__law_is_integer cd__law_is_integer ct__law_is_integer, a__law_char, PySem.W.fnOf "_law_char" "_law_char" (defArgs st__law_char) (defBody st__law_char) (defScope st__law_char) .none kV__law_char dc__law_char pm__law_char an__law_char cd__law_char ct__law_char, a__law_text, PySem.W.fnOf "_law_text" "_law_text" (defArgs st__law_text) (defBody st__law_text) (defScope st__law_text) .none kV__law_text dc__law_text pm__law_text an__law_text cd__law_text ct__law_text, a__law_name, PySem.W.fnOf "_law_name" "_law_name" (defArgs st__law_name) (defBody st__law_name) (defScope st__law_name) .none kV__law_name dc__law_name pm__law_name an__law_name cd__law_name ct__law_name, a__law_octets, PySem.W.fnOf "_law_octets" "_law_octets" (defArgs st__law_octets) (defBody st__law_octets) (defScope st__law_octets) .none kV__law_octets dc__law_octets pm__law_octets an__law_octets cd__law_octets ct__law_octets, a__law_good, PySem.W.fnOf "_law_good" "_law_good" (defArgs st__law_good) (defBody st__law_good) (defScope st__law_good) .none kV__law_good dc__law_good pm__law_good an__law_good cd__law_good ct__law_good, a__law_reads, PySem.W.fnOf "_law_reads" "_law_reads" (defArgs st__law_reads) (defBody st__law_reads) (defScope st__law_reads) .none kV__law_reads dc__law_reads pm__law_reads an__law_reads cd__law_reads ct__law_reads, a__law_is, PySem.W.fnOf "_law_is" "_law_is" (defArgs st__law_is) (defBody st__law_is) (defScope st__law_is) .none kV__law_is dc__law_is pm__law_is an__law_is cd__law_is ct__law_is, a__law_names, PySem.W.fnOf "_law_names" "_law_names" (defArgs st__law_names) (defBody st__law_names) (defScope st__law_names) .none kV__law_names dc__law_names pm__law_names an__law_names cd__law_names ct__law_names, fa, PySem.W.fnOf "law" "law" (defArgs st_law) (defBody st_law) (defScope st_law) .none kV_law dc_law pm_law an_law cd_law ct_law, t_ENTRY_OCTETS, t_HIGH, t_LOW, t_MOST_SIGNS, t_NAME_START, t_PERCENT⟩
  have T : Txt K mg A := ⟨fun_mk (st := st_number_octets) h3_number_octets h4_number_octets h5_number_octets,
    (fun_mk (st := st_number_octets) h3_number_octets h4_number_octets h5_number_octets).binds (ps := ["number", "count"]) fun _ _ _ _ _ _ us hl => match us, hl with | [_, _], _ => rfl,
    PySem.W.mg_of X G h1_number_octets,
    fun_mk (st := st_number_of) h3_number_of h4_number_of h5_number_of,
    (fun_mk (st := st_number_of) h3_number_of h4_number_of h5_number_of).binds (ps := ["octets"]) fun _ _ _ _ _ _ us hl => match us, hl with | [_], _ => rfl,
    PySem.W.mg_of X G h1_number_of,
    fun_mk (st := st_is_code) h3_is_code h4_is_code h5_is_code,
    (fun_mk (st := st_is_code) h3_is_code h4_is_code h5_is_code).binds (ps := ["code"]) fun _ _ _ _ _ _ us hl => match us, hl with | [_], _ => rfl,
    PySem.W.mg_of X G h1_is_code,
    fun_mk (st := st_is_text) h3_is_text h4_is_text h5_is_text,
    (fun_mk (st := st_is_text) h3_is_text h4_is_text h5_is_text).binds (ps := ["text"]) fun _ _ _ _ _ _ us hl => match us, hl with | [_], _ => rfl,
    PySem.W.mg_of X G h1_is_text,
    fun_mk (st := st_octets_of) h3_octets_of h4_octets_of h5_octets_of,
    (fun_mk (st := st_octets_of) h3_octets_of h4_octets_of h5_octets_of).binds (ps := ["text"]) fun _ _ _ _ _ _ us hl => match us, hl with | [_], _ => rfl,
    PySem.W.mg_of X G h1_octets_of,
    fun_mk (st := st_char_of) h3_char_of h4_char_of h5_char_of,
    (fun_mk (st := st_char_of) h3_char_of h4_char_of h5_char_of).binds (ps := ["code"]) fun _ _ _ _ _ _ us hl => match us, hl with | [_], _ => rfl,
    PySem.W.mg_of X G h1_char_of,
    fun_mk (st := st_text_of) h3_text_of h4_text_of h5_text_of,
    (fun_mk (st := st_text_of) h3_text_of h4_text_of h5_text_of).binds (ps := ["octets"]) fun _ _ _ _ _ _ us hl => match us, hl with | [_], _ => rfl,
    PySem.W.mg_of X G h1_text_of,
    fun_mk (st := st_is_name) h3_is_name h4_is_name h5_is_name,
    (fun_mk (st := st_is_name) h3_is_name h4_is_name h5_is_name).binds (ps := ["text"]) fun _ _ _ _ _ _ us hl => match us, hl with | [_], _ => rfl,
    PySem.W.mg_of X G h1_is_name,
    fun_mk (st := st_encode_entry) h3_encode_entry h4_encode_entry h5_encode_entry,
    (fun_mk (st := st_encode_entry) h3_encode_entry h4_encode_entry h5_encode_entry).binds (ps := ["name", "number"]) fun _ _ _ _ _ _ us hl => match us, hl with | [_, _], _ => rfl,
    PySem.W.mg_of X G h1_encode_entry,
    fun_mk (st := st_decode_entry) h3_decode_entry h4_decode_entry h5_decode_entry,
    (fun_mk (st := st_decode_entry) h3_decode_entry h4_decode_entry h5_decode_entry).binds (ps := ["octets"]) fun _ _ _ _ _ _ us hl => match us, hl with | [_], _ => rfl,
    PySem.W.mg_of X G h1_decode_entry,
    fun_mk (st := st__law_row) h3__law_row h4__law_row h5__law_row,
    (fun_mk (st := st__law_row) h3__law_row h4__law_row h5__law_row).binds (ps := ["_law_script", "_law_k"]) fun _ _ _ _ _ _ us hl => match us, hl with | [_, _], _ => rfl,
    PySem.W.mg_of X G h1__law_row,
    fun_mk (st := st__law_is_integer) h3__law_is_integer h4__law_is_integer h5__law_is_integer,
    (fun_mk (st := st__law_is_integer) h3__law_is_integer h4__law_is_integer h5__law_is_integer).binds (ps := ["_law_actual"]) fun _ _ _ _ _ _ us hl => match us, hl with | [_], _ => rfl,
    PySem.W.mg_of X G h1__law_is_integer,
    fun_mk (st := st__law_char) h3__law_char h4__law_char h5__law_char,
    (fun_mk (st := st__law_char) h3__law_char h4__law_char h5__law_char).binds (ps := ["_law_number"]) fun _ _ _ _ _ _ us hl => match us, hl with | [_], _ => rfl,
    PySem.W.mg_of X G h1__law_char,
    fun_mk (st := st__law_text) h3__law_text h4__law_text h5__law_text,
    (fun_mk (st := st__law_text) h3__law_text h4__law_text h5__law_text).binds (ps := ["_law_number", "_law_count"]) fun _ _ _ _ _ _ us hl => match us, hl with | [_, _], _ => rfl,
    PySem.W.mg_of X G h1__law_text,
    fun_mk (st := st__law_name) h3__law_name h4__law_name h5__law_name,
    (fun_mk (st := st__law_name) h3__law_name h4__law_name h5__law_name).binds (ps := ["_law_number"]) fun _ _ _ _ _ _ us hl => match us, hl with | [_], _ => rfl,
    PySem.W.mg_of X G h1__law_name,
    fun_mk (st := st__law_octets) h3__law_octets h4__law_octets h5__law_octets,
    (fun_mk (st := st__law_octets) h3__law_octets h4__law_octets h5__law_octets).binds (ps := ["_law_name_here", "_law_number"]) fun _ _ _ _ _ _ us hl => match us, hl with | [_, _], _ => rfl,
    PySem.W.mg_of X G h1__law_octets,
    fun_mk (st := st__law_good) h3__law_good h4__law_good h5__law_good,
    (fun_mk (st := st__law_good) h3__law_good h4__law_good h5__law_good).binds (ps := ["_law_octets_here"]) fun _ _ _ _ _ _ us hl => match us, hl with | [_], _ => rfl,
    PySem.W.mg_of X G h1__law_good,
    fun_mk (st := st__law_reads) h3__law_reads h4__law_reads h5__law_reads,
    (fun_mk (st := st__law_reads) h3__law_reads h4__law_reads h5__law_reads).binds (ps := ["_law_octets_here"]) fun _ _ _ _ _ _ us hl => match us, hl with | [_], _ => rfl,
    PySem.W.mg_of X G h1__law_reads,
    fun_mk (st := st__law_is) h3__law_is h4__law_is h5__law_is,
    (fun_mk (st := st__law_is) h3__law_is h4__law_is h5__law_is).binds (ps := ["_law_actual", "_law_due"]) fun _ _ _ _ _ _ us hl => match us, hl with | [_, _], _ => rfl,
    PySem.W.mg_of X G h1__law_is,
    fun_mk (st := st__law_names) h3__law_names h4__law_names h5__law_names,
    (fun_mk (st := st__law_names) h3__law_names h4__law_names h5__law_names).binds (ps := ["_law_number"]) fun _ _ _ _ _ _ us hl => match us, hl with | [_], _ => rfl,
    PySem.W.mg_of X G h1__law_names,
    fun_mk (st := st_law) h3_law h4_law h5_law,
    (fun_mk (st := st_law) h3_law h4_law h5_law).binds (ps := ["_law_script"]) fun _ _ _ _ _ _ us hl => match us, hl with | [_], _ => rfl,
    PySem.W.mg_of X G h1_law,
    PySem.W.mg_of X G k_ENTRY_OCTETS,
    PySem.W.mg_of X G k_HIGH,
    PySem.W.mg_of X G k_LOW,
    PySem.W.mg_of X G k_MOST_SIGNS,
    PySem.W.mg_of X G k_NAME_START,
    PySem.W.mg_of X G k_PERCENT,
    PySem.W.mg_none_of X G z_all,
    PySem.W.mg_none_of X G z_any,
    PySem.W.mg_none_of X G z_bool,
    PySem.W.mg_none_of X G z_int,
    PySem.W.mg_none_of X G z_isinstance,
    PySem.W.mg_none_of X G z_len,
    PySem.W.mg_none_of X G z_list,
    PySem.W.mg_none_of X G z_min,
    PySem.W.mg_none_of X G z_ord,
    PySem.W.mg_none_of X G z_range,
    PySem.W.mg_none_of X G z_reversed,
    PySem.W.mg_none_of X G z_str,
    PySem.W.mg_none_of X G z_tuple⟩
  exact ⟨PySem.W.fnOf "law" "law" (defArgs st_law) (defBody st_law) (defScope st_law) .none kV_law dc_law pm_law an_law cd_law ct_law, fun s v => .of_eq rfl, fun base _ _ => ok_law T⟩
end X
open PySem PySem.W PyProof.Rows
set_option maxHeartbeats 0 in
theorem PySem.Challenge.cw_segmentfs_k49_entries_as_octets_holds : PySem.Challenge.rw_segmentfs_k49_entries_as_octets.Holds := by
  w_on; o_law; k_head; (case hw => w_witness2)
  k_fill
  refine L2.walk_of (l := PySem.Challenge.rw_segmentfs_k49_entries_as_octets) (n := 63) (k := 6) (x := "_law_script") (CX := fun _ => L2.CX0) (sp := fun w => X.sp_law0 _) rfl (by decide) rfl ⟨rfl, by decide, by decide⟩ (fun w h Y => PySem.W.kIn_of Y) ?F (fun _ _ a ns hl _ hS => ⟨a, ns, rfl, hS, hl, fun _ => rfl⟩) (fun _ _ _ _ _ h => h)
  case F =>
    intro w mg fa h KX G hmg
    refine' X.all_mk KX G hmg ?k_ENTRY_OCTETS ?k_HIGH ?k_LOW ?k_MOST_SIGNS ?k_NAME_START ?k_PERCENT ?z_all ?z_any ?z_bool ?z_int ?z_isinstance ?z_len ?z_list ?z_min ?z_ord ?z_range ?z_reversed ?z_str ?z_tuple ?h1_number_octets ?h3_number_octets ?h4_number_octets ?h5_number_octets ?h1_number_of ?h3_number_of ?h4_number_of ?h5_number_of ?h1_is_code ?h3_is_code ?h4_is_code ?h5_is_code ?h1_is_text ?h3_is_text ?h4_is_text ?h5_is_text ?h1_octets_of ?h3_octets_of ?h4_octets_of ?h5_octets_of ?h1_char_of ?h3_char_of ?h4_char_of ?h5_char_of ?h1_text_of ?h3_text_of ?h4_text_of ?h5_text_of ?h1_is_name ?h3_is_name ?h4_is_name ?h5_is_name ?h1_encode_entry ?h3_encode_entry ?h4_encode_entry ?h5_encode_entry ?h1_decode_entry ?h3_decode_entry ?h4_decode_entry ?h5_decode_entry ?h1__law_row ?h3__law_row ?h4__law_row ?h5__law_row ?h1__law_is_integer ?h3__law_is_integer ?h4__law_is_integer ?h5__law_is_integer ?h1__law_char ?h3__law_char ?h4__law_char ?h5__law_char ?h1__law_text ?h3__law_text ?h4__law_text ?h5__law_text ?h1__law_name ?h3__law_name ?h4__law_name ?h5__law_name ?h1__law_octets ?h3__law_octets ?h4__law_octets ?h5__law_octets ?h1__law_good ?h3__law_good ?h4__law_good ?h5__law_good ?h1__law_reads ?h3__law_reads ?h4__law_reads ?h5__law_reads ?h1__law_is ?h3__law_is ?h4__law_is ?h5__law_is ?h1__law_names ?h3__law_names ?h4__law_names ?h5__law_names ?h1_law ?h3_law ?h4_law ?h5_law
    (case k_ENTRY_OCTETS => k_is)
    (case k_HIGH => k_is)
    (case k_LOW => k_is)
    (case k_MOST_SIGNS => k_is)
    (case k_NAME_START => k_is)
    (case k_PERCENT => k_is)
    (case z_all => k_is)
    (case z_any => k_is)
    (case z_bool => k_is)
    (case z_int => k_is)
    (case z_isinstance => k_is)
    (case z_len => k_is)
    (case z_list => k_is)
    (case z_min => k_is)
    (case z_ord => k_is)
    (case z_range => k_is)
    (case z_reversed => k_is)
    (case z_str => k_is)
    (case z_tuple => k_is)
    (case h1_number_octets => k_is)
    (case h3_number_octets => k_is)
    (case h4_number_octets => k_is)
    (case h5_number_octets => k_is)
    (case h1_number_of => k_is)
    (case h3_number_of => k_is)
    (case h4_number_of => k_is)
    (case h5_number_of => k_is)
    (case h1_is_code => k_is)
    (case h3_is_code => k_is)
    (case h4_is_code => k_is)
    (case h5_is_code => k_is)
    (case h1_is_text => k_is)
    (case h3_is_text => k_is)
    (case h4_is_text => k_is)
    (case h5_is_text => k_is)
    (case h1_octets_of => k_is)
    (case h3_octets_of => k_is)
    (case h4_octets_of => k_is)
    (case h5_octets_of => k_is)
    (case h1_char_of => k_is)
    (case h3_char_of => k_is)
    (case h4_char_of => k_is)
    (case h5_char_of => k_is)
    (case h1_text_of => k_is)
    (case h3_text_of => k_is)
    (case h4_text_of => k_is)
    (case h5_text_of => k_is)
    (case h1_is_name => k_is)
    (case h3_is_name => k_is)
    (case h4_is_name => k_is)
    (case h5_is_name => k_is)
    (case h1_encode_entry => k_is)
    (case h3_encode_entry => k_is)
    (case h4_encode_entry => k_is)
    (case h5_encode_entry => k_is)
    (case h1_decode_entry => k_is)
    (case h3_decode_entry => k_is)
    (case h4_decode_entry => k_is)
    (case h5_decode_entry => k_is)
    (case h1__law_row => k_is)
    (case h3__law_row => k_is)
    (case h4__law_row => k_is)
    (case h5__law_row => k_is)
    (case h1__law_is_integer => k_is)
    (case h3__law_is_integer => k_is)
    (case h4__law_is_integer => k_is)
    (case h5__law_is_integer => k_is)
    (case h1__law_char => k_is)
    (case h3__law_char => k_is)
    (case h4__law_char => k_is)
    (case h5__law_char => k_is)
    (case h1__law_text => k_is)
    (case h3__law_text => k_is)
    (case h4__law_text => k_is)
    (case h5__law_text => k_is)
    (case h1__law_name => k_is)
    (case h3__law_name => k_is)
    (case h4__law_name => k_is)
    (case h5__law_name => k_is)
    (case h1__law_octets => k_is)
    (case h3__law_octets => k_is)
    (case h4__law_octets => k_is)
    (case h5__law_octets => k_is)
    (case h1__law_good => k_is)
    (case h3__law_good => k_is)
    (case h4__law_good => k_is)
    (case h5__law_good => k_is)
    (case h1__law_reads => k_is)
    (case h3__law_reads => k_is)
    (case h4__law_reads => k_is)
    (case h5__law_reads => k_is)
    (case h1__law_is => k_is)
    (case h3__law_is => k_is)
    (case h4__law_is => k_is)
    (case h5__law_is => k_is)
    (case h1__law_names => k_is)
    (case h3__law_names => k_is)
    (case h4__law_names => k_is)
    (case h5__law_names => k_is)
    (case h1_law => k_is)
    (case h3_law => k_is)
    (case h4_law => k_is)
    (case h5_law => k_is)
