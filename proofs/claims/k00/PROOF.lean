import PyProof.Rows.All
import Wide.All
import OpenK.AllK
import Wide.FinOn
import HandS.ForMost
import HandS.NoneIn
import HandS.IsInst
import HandS.Wide
import HandS.Style
import HandS.SortInts
import HandS.Conv
import PySem.Challenge.RW_segmentfs_k00_kinds_of_blocks
set_option Elab.async false
set_option linter.all false
set_option maxRecDepth 100000
set_option maxHeartbeats 4000000
/-! ### prelude: the state of a walk (Hs), values (Val), tests (Ans), statements -/
namespace G
open PySem PySem.Spec PyProof.Rows L2
/-- all of B but F stands as it stood; the cells L are the walk's own (new since B, or of F) -/
structure Hs (F : List Addr) (B : Hp) (L : List (Addr × HO)) (H : Hp) : Prop where
  fr : ∀ a o, B a = some o → a ∉ F → H a = some o
  al : ∀ a, H a = none → B a = none
  own : ∀ p ∈ L, H p.1 = some p.2
  fs : ∀ p ∈ L, p.1 ∈ F ∨ B p.1 = none
  nd : (L.map (·.1)).Nodup
section
variable {F : List Addr} {B H H' : Hp} {L L' : List (Addr × HO)} {p : Addr} {o o' : HO}
theorem Hs.start (H : Hp) : Hs [] H [] H := ⟨fun _ _ h _ => h, fun _ h => h, fun _ h => (List.not_mem_nil h).elim, fun _ h => (List.not_mem_nil h).elim, List.nodup_nil⟩
theorem Hs.startF (hL : ∀ q ∈ L, H q.1 = some q.2 ∧ q.1 ∈ F) (nd : (L.map (·.1)).Nodup) : Hs F H L H :=
  ⟨fun _ _ h _ => h, fun _ h => h, fun q h => (hL q h).1, fun q h => .inl (hL q h).2, nd⟩
theorem Hs.mem (s : Hs F B L H) (i : Nat) (h : L[i]? = some (p, o)) : H p = some o := s.own (p, o) (List.mem_of_getElem? h)
theorem Hs.frs (s : Hs F B L H) (i : Nat) (h : L[i]? = some (p, o)) (hf : p ∉ F) : B p = none := (s.fs (p, o) (List.mem_of_getElem? h)).resolve_left hf
theorem Hs.new (s : Hs F B L H) (np : H p = none) (o : HO) : Hs F B ((p, o) :: L) (upd H p o) := by
  have ne : ∀ a u, H a = some u → a ≠ p := fun a u e z => by rw [z, np] at e; cases e
  refine ⟨fun a u e hf => ?_, fun a e => ?_, fun q hq => ?_, fun q hq => ?_, ?_⟩
  · have h := s.fr a u e hf
    rw [upd_ne (ne a u h)]; exact h
  · by_cases z : a = p
    · rw [z, upd_same] at e; cases e
    · rw [upd_ne z] at e; exact s.al a e
  · rcases List.mem_cons.mp hq with e | hq
    · rw [e]; exact upd_same
    · have h := s.own q hq
      rw [upd_ne (ne _ _ h)]; exact h
  · rcases List.mem_cons.mp hq with e | hq
    · rw [e]; exact .inr (s.al p np)
    · exact s.fs q hq
  · rw [List.map_cons, List.nodup_cons]
    refine ⟨fun hm => ?_, s.nd⟩
    obtain ⟨q, hq, e⟩ := List.mem_map.mp hm
    exact ne _ _ (s.own q hq) e
theorem map_set_fst (L : List (Addr × HO)) (i : Nat) (h : L[i]? = some (p, o)) (o' : HO) : (L.set i (p, o')).map (·.1) = L.map (·.1) := by
  refine List.ext_getElem? fun j => ?_
  rw [List.getElem?_map, List.getElem?_map]
  by_cases e : i = j
  · subst e
    rw [List.getElem?_set_self (List.getElem?_eq_some_iff.mp h).1, h]
    rfl
  · rw [List.getElem?_set_ne e]
theorem nodup_at {α : Type} {l : List α} (hN : l.Nodup) {i j : Nat} {x : α} (a : l[i]? = some x) (b : l[j]? = some x) : i = j := by
  have ha := (List.getElem?_eq_some_iff.mp a)
  have hb := (List.getElem?_eq_some_iff.mp b)
  exact (List.getElem_inj hN).mp (ha.2.trans hb.2.symm)
theorem Hs.wr (s : Hs F B L H) (i : Nat) (o' : HO) (h : L[i]? = some (p, o)) : Hs F B (L.set i (p, o')) (upd H p o') := by
  have hp := s.mem i h
  refine ⟨fun a u e hf => ?_, fun a e => ?_, fun q hq => ?_, fun q hq => ?_, ?_⟩
  · have z : a ≠ p := fun z => by
      rw [z] at e hf
      rcases s.fs (p, o) (List.mem_of_getElem? h) with y | y
      · exact hf y
      · rw [show (p, o).1 = p from rfl, e] at y; cases y
    rw [upd_ne z]; exact s.fr a u e hf
  · by_cases z : a = p
    · rw [z, upd_same] at e; cases e
    · rw [upd_ne z] at e; exact s.al a e
  · obtain ⟨j, hj⟩ := List.mem_iff_getElem?.mp hq
    by_cases e : i = j
    · subst e
      rw [List.getElem?_set_self (List.getElem?_eq_some_iff.mp h).1] at hj
      cases hj; exact upd_same
    · rw [List.getElem?_set_ne e] at hj
      have z : q.1 ≠ p := fun z => e (nodup_at s.nd (by rw [List.getElem?_map, h]; rfl) (by rw [List.getElem?_map, hj, ← z]; rfl))
      rw [upd_ne z]; exact s.own q (List.mem_of_getElem? hj)
  · have hm : q.1 ∈ (L.set i (p, o')).map (·.1) := List.mem_map.mpr ⟨q, hq, rfl⟩
    rw [map_set_fst L i h] at hm
    obtain ⟨r, hr, e⟩ := List.mem_map.mp hm
    rw [← e]; exact s.fs r hr
  · rw [map_set_fst L i h]; exact s.nd
theorem Hs.ext (s : Hs F B L H) (e : Same H H') : Hs F B L H' :=
  ⟨fun a o h hf => e a o (s.fr a o h hf), fun a h => s.al a (e.free h), fun q hq => e _ _ (s.own q hq), s.fs, s.nd⟩
theorem Hs.top (s : Hs F B ((p, o) :: L) H) (e : o = o') : Hs F B ((p, o') :: L) H := e ▸ s
theorem Hs.ret (s : Hs F B L H) (e : Same H H') (np : H p = none) (hp : H' p = some o) : Hs F B ((p, o) :: L) H' := by
  refine ⟨fun a o h hf => e a o (s.fr a o h hf), fun a h => s.al a (e.free h), fun q hq => ?_, fun q hq => ?_, ?_⟩
  · rcases List.mem_cons.mp hq with z | hq
    · rw [z]; exact hp
    · exact e _ _ (s.own q hq)
  · rcases List.mem_cons.mp hq with z | hq
    · rw [z]; exact .inr (s.al p np)
    · exact s.fs q hq
  · rw [List.map_cons, List.nodup_cons]
    refine ⟨fun hm => ?_, s.nd⟩
    obtain ⟨q, hq, z⟩ := List.mem_map.mp hm
    have h := s.own q hq
    rw [show q.1 = p from z, np] at h; cases h
theorem Hs.pick (s : Hs F B L H) (is : List Nat) (hn : is.Nodup) (h : is.map (fun i => L[i]?) = L'.map some) : Hs F B L' H := by
  have mem : ∀ q ∈ L', q ∈ L := fun q hq => by
    have : some q ∈ is.map (fun i => L[i]?) := by rw [h]; exact List.mem_map.mpr ⟨q, hq, rfl⟩
    obtain ⟨i, _, e⟩ := List.mem_map.mp this
    exact List.mem_of_getElem? e
  refine ⟨s.fr, s.al, fun q hq => s.own q (mem q hq), fun q hq => s.fs q (mem q hq), ?_⟩
  rw [List.nodup_iff_pairwise_ne, List.pairwise_iff_getElem]
  intro i j hi hj hij e
  rw [List.length_map] at hi hj
  have hl : is.length = L'.length := by have := congrArg List.length h; simpa using this
  have gi : ∀ k (hk : k < L'.length), L[is[k]'(by omega)]? = some L'[k] := fun k hk => by
    have := congrArg (fun l => l[k]?) h
    simp only [List.getElem?_map] at this
    rw [List.getElem?_eq_getElem (show k < is.length by omega), List.getElem?_eq_getElem hk] at this
    exact Option.some.inj this
  rw [List.getElem_map, List.getElem_map] at e
  have e2 : is[i]'(by omega) = is[j]'(by omega) := nodup_at s.nd (by rw [List.getElem?_map, gi i hi]; rfl) (by rw [List.getElem?_map, gi j hj]; exact congrArg some e.symm)
  have := (List.getElem_inj hn).mp e2
  omega
/-- behind a call that keeps all but G's cells; N: what it made or changed; rest: the cells that it left alone -/
theorem Hs.call {G : List Addr} {N R : List (Addr × HO)} (s : Hs F B L H) (r : Hs G H N H') (is : List Nat) (hG : ∀ a ∈ G, a ∈ L.map (·.1)) (hn : is.Nodup) (h : is.map (fun i => L[i]?) = R.map some) (hR : ∀ q ∈ R, q.1 ∉ G) : Hs F B (N ++ R) H' := by
  have sR := s.pick is hn h
  have gL : ∀ a ∈ G, a ∈ F ∨ B a = none := fun a ha => by
    obtain ⟨q, hq, e⟩ := List.mem_map.mp (hG a ha)
    rw [← e]; exact s.fs q hq
  refine ⟨fun a o e hf => ?_, fun a e => s.al a (r.al a e), fun q hq => ?_, fun q hq => ?_, ?_⟩
  · refine r.fr a o (s.fr a o e hf) fun ha => ?_
    rcases gL a ha with z | z
    · exact hf z
    · rw [e] at z; cases z
  · rcases List.mem_append.mp hq with z | z
    · exact r.own q z
    · exact r.fr _ _ (sR.own q z) (hR q z)
  · rcases List.mem_append.mp hq with z | z
    · rcases r.fs q z with y | y
      · exact gL _ y
      · exact .inr (s.al _ y)
    · exact sR.fs q z
  · rw [List.map_append, List.nodup_append]
    refine ⟨r.nd, sR.nd, fun a ha b hb e => ?_⟩
    obtain ⟨q, hq, e1⟩ := List.mem_map.mp ha
    obtain ⟨q2, hq2, e2⟩ := List.mem_map.mp hb
    have e3 : q.1 = q2.1 := by rw [show q.1 = a from e1, show q2.1 = b from e2, e]
    rcases r.fs q hq with y | y
    · exact hR q2 hq2 (e3 ▸ y)
    · have := sR.own q2 hq2
      rw [← e3, y] at this; cases this
theorem Hs.call0 {N : List (Addr × HO)} (s : Hs F B L H) (r : Hs [] H N H') : Hs F B (N ++ L) H' := by
  have e : (List.range L.length).map (fun i => L[i]?) = L.map some := by
    refine List.ext_getElem? fun j => ?_
    rw [List.getElem?_map, List.getElem?_map]
    by_cases h : j < L.length
    · rw [List.getElem?_range h, List.getElem?_eq_getElem h]
      show some L[j]? = some (some L[j])
      rw [List.getElem?_eq_getElem h]
    · rw [List.getElem?_eq_none (by rw [List.length_range]; omega), List.getElem?_eq_none (by omega)]; rfl
  exact s.call r (List.range L.length) (fun _ h => (List.not_mem_nil h).elim) List.nodup_range e fun _ _ => List.not_mem_nil
theorem Hs.ne {q : Addr} (s : Hs F B L H) (i j : Nat) (hi : L[i]? = some (p, o)) (hj : L[j]? = some (q, o')) (h : i ≠ j) : p ≠ q := fun e =>
  h (nodup_at s.nd (by rw [List.getElem?_map, hi]; rfl) (by rw [List.getElem?_map, hj, e]; rfl))
theorem Hs.same (s : Hs [] B L H) : Same B H := fun a o h => s.fr a o h (List.not_mem_nil)
theorem Hs.sq {K : PySem.W.Frag} {a : Addr} {xs : List V} (s : Hs [] B L H) (h : SqL K B a xs) : SqL K H a xs := s.same.seq h
theorem Hs.sqt {K : PySem.W.Frag} {a : Addr} {xs : List V} (s : Hs [] B L H) (h : SqT K B a xs) : SqT K H a xs := by
  rcases h with h | h
  · rcases h with h | ⟨o, h⟩
    · exact .inl (.inl (s.same a _ h))
    · exact .inl (.inr ⟨o, s.same a _ h⟩)
  · exact .inr h
theorem Hs.l {K : PySem.W.Frag} {xs : List V} (s : Hs F B L H) (i : Nat) (h : L[i]? = some (p, .lst xs)) : SqL K H p xs := SqL.of (s.mem i h)
theorem Hs.t {K : PySem.W.Frag} {xs : List V} (s : Hs F B L H) (i : Nat) (h : L[i]? = some (p, .tup xs)) : SqT K H p xs := SqT.of (s.mem i h)
end
/-! ### ints of a list by an index -/
def gi (ns : List Int) (i : Int) : Int := ns.getD i.toNat 0
theorem at_gi {ns : List Int} {i : Int} (h0 : 0 ≤ i) (h1 : i < (ns.length : Int)) : atI (ns.map V.int) i = some (V.int (gi ns i)) := by
  obtain ⟨n, rfl⟩ := Int.eq_ofNat_of_zero_le h0
  refine atI_nat ?_
  have hn : n < ns.length := by omega
  rw [List.getElem?_map, List.getElem?_eq_getElem hn]
  show some (V.int ns[n]) = some (V.int (ns.getD n 0))
  rw [List.getD_eq_getElem?_getD, List.getElem?_eq_getElem hn]; rfl
theorem gi_mem {ns : List Int} {i : Int} (h0 : 0 ≤ i) (h1 : i < (ns.length : Int)) : gi ns i ∈ ns := by
  obtain ⟨n, rfl⟩ := Int.eq_ofNat_of_zero_le h0
  have hn : n < ns.length := by omega
  show ns.getD n 0 ∈ ns
  rw [List.getD_eq_getElem?_getD, List.getElem?_eq_getElem hn]
  exact List.getElem_mem hn
/-! ### values and tests -/
def Val (te : TE) (σ : L2.St) (H : Hp) (v : V) : Prop := ∀ Q : VK, Q v H → te σ H Q
def VA (ta : TA) (σ : L2.St) (H : Hp) (vs : List V) : Prop := ∀ Q : List V → Hp → Prop, Q vs H → ta σ H Q
def Ans (t : TT) (σ : L2.St) (H : Hp) (p : Prop) [Decidable p] : Prop := ∀ Q : Bool → Hp → Prop, Q (decide p) H → t σ H Q
section
variable {K : PySem.W.Frag} {σ σ' : L2.St} {H : Hp} {ta tb te tc : TE} {t u : TT} {x y z v w : V} {r : R2} {i j : Int}
theorem vv (n : Nat) (h : σ[n]? = some (some v)) : Val (tVar n) σ H v := fun _ q => ⟨v, h, q⟩
theorem vc : Val (tC v) σ H v := fun _ q => q
theorem vis (h : Val te σ H v) (e : v = w) : Val te σ H w := e ▸ h
theorem v0 {g : Int → Int → V} (ha : Val ta σ H (.int i)) (hb : Val tb σ H (.int j)) : Val (tOp (rI0 g) ta tb) σ H (g i j) := fun Q q => ha _ (hb _ ⟨i, j, rfl, rfl, q⟩)
theorem v1 {C : Int → Int → Prop} {g : Int → Int → V} (hc : C i j) (ha : Val ta σ H (.int i)) (hb : Val tb σ H (.int j)) : Val (tOp (rI C g) ta tb) σ H (g i j) := fun Q q => ha _ (hb _ ⟨i, j, rfl, rfl, hc, q⟩)
theorem vun {g : Int → V} (ha : Val ta σ H (.int i)) : Val (tUn (rU g) ta) σ H (g i) := fun Q q => ha _ ⟨i, rfl, q⟩
abbrev rInt1 : List V → Hp → VK → Prop := fun xs H Q => (∃ i, xs = [.int i] ∧ Q (.int i) H) ∨ ∃ k, xs = [.bl k] ∧ Q (.int (if k then 1 else 0)) H
theorem vint (ha : Val ta σ H (.int i)) : Val (tCB rInt1 (tCons ta tNil)) σ H (.int i) := fun Q q => ha _ (.inl ⟨i, rfl, q⟩)
theorem vintb {b : Bool} (ha : Val ta σ H (.bl b)) : Val (tCB rInt1 (tCons ta tNil)) σ H (.int (if b then 1 else 0)) := fun Q q => ha _ (.inr ⟨b, rfl, q⟩)
theorem vixL {p : Addr} {xs : List V} (ha : Val ta σ H (.ref p)) (hb : Val tb σ H (.int i)) (hs : SqL K H p xs) (h : atI xs i = some v) : Val (tOp (rIxL K) ta tb) σ H v := fun Q q => ha _ (hb _ ⟨p, xs, i, v, rfl, rfl, hs, h, q⟩)
theorem vixT {p : Addr} {xs : List V} (ha : Val ta σ H (.ref p)) (hb : Val tb σ H (.int i)) (hs : SqT K H p xs) (h : atI xs i = some v) : Val (tOp (rIxT K) ta tb) σ H v := fun Q q => ha _ (hb _ ⟨p, xs, i, v, rfl, rfl, hs, h, q⟩)
abbrev rLenS (K : PySem.W.Frag) : List V → Hp → VK → Prop := fun xs H Q => ∃ p ys, xs = [.ref p] ∧ (SqL K H p ys ∨ SqT K H p ys) ∧ Q (.int ys.length) H
theorem vlenL {p : Addr} {xs : List V} (ha : Val ta σ H (.ref p)) (hs : SqL K H p xs) : Val (tCB (rLenS K) (tCons ta tNil)) σ H (.int xs.length) := fun Q q => ha _ ⟨p, xs, rfl, .inl hs, q⟩
theorem vlenT {p : Addr} {xs : List V} (ha : Val ta σ H (.ref p)) (hs : SqT K H p xs) : Val (tCB (rLenS K) (tCons ta tNil)) σ H (.int xs.length) := fun Q q => ha _ ⟨p, xs, rfl, .inr hs, q⟩
theorem vfld {a C dx : Addr} {fs : List (Str × V)} {f : Str} (h : Val ta σ H (.ref a)) (ho : H a = some (.ins C dx fs)) (hc : Cls K C) (hn : NoAttr K C f) (hl : fs.lookup f = some v) : Val (tFld K ta f) σ H v := fun Q q => h _ ⟨a, C, dx, fs, v, rfl, ho, hc, hn, hl, q⟩
theorem vif {p : Prop} [Decidable p] (h : Ans t σ H p) (h1 : p → Val ta σ H v) (h2 : ¬ p → Val tb σ H v) : Val (tIf t ta tb) σ H v := fun Q q => h _ (by
  by_cases hp : p
  · rw [decide_eq_true hp]; exact h1 hp Q q
  · rw [decide_eq_false hp]; exact h2 hp Q q)
theorem vtest {p : Prop} [Decidable p] (h : Val te σ H (.bl (decide p))) : Ans (tTest te) σ H p := fun Q q => h _ ⟨_, rfl, q⟩
theorem vB {p : Prop} [Decidable p] (h : Val te σ H (.bl (decide p))) : Ans (tB te) σ H p := fun Q q => h _ ⟨_, rfl, q⟩
theorem vbool {b : Bool} (h : Val te σ H (.bl b)) : Val te σ H (.bl (decide (b = true))) := by
  rw [show decide (b = true) = b from by cases b <;> rfl]; exact h
theorem dec_eq_V {α : Type} [DecidableEq α] (f : α → V) (hf : ∀ a b, f a = f b → a = b) (a b : α) : decide (f a = f b) = decide (a = b) := by
  by_cases h : a = b
  · rw [decide_eq_true h, decide_eq_true (congrArg f h)]
  · rw [decide_eq_false h, decide_eq_false (fun e => h (hf _ _ e))]
theorem dec_not (p : Prop) [Decidable p] : (!decide p) = decide (¬ p) := by
  by_cases h : p
  · rw [decide_eq_true h, decide_eq_false (not_not_intro h)]; rfl
  · rw [decide_eq_false h, decide_eq_true h]; rfl
theorem veq (ha : Val ta σ H (.int i)) (hb : Val tb σ H (.int j)) : Val (tOp rEq ta tb) σ H (.bl (decide (i = j))) := fun Q q => ha _ (hb _ ⟨rfl, by rw [dec_eq_V V.int (fun _ _ e => V.int.inj e)]; exact q⟩)
theorem vne (ha : Val ta σ H (.int i)) (hb : Val tb σ H (.int j)) : Val (tOp rNe ta tb) σ H (.bl (decide (i ≠ j))) := fun Q q => ha _ (hb _ ⟨rfl, by rw [dec_eq_V V.int (fun _ _ e => V.int.inj e), dec_not]; exact q⟩)
theorem veqb {a b : Bool} (ha : Val ta σ H (.bl a)) (hb : Val tb σ H (.bl b)) : Val (tOp rEq ta tb) σ H (.bl (decide (a = b))) := fun Q q => ha _ (hb _ ⟨rfl, by rw [dec_eq_V V.bl (fun _ _ e => V.bl.inj e)]; exact q⟩)
theorem vneb {a b : Bool} (ha : Val ta σ H (.bl a)) (hb : Val tb σ H (.bl b)) : Val (tOp rNe ta tb) σ H (.bl (decide (a ≠ b))) := fun Q q => ha _ (hb _ ⟨rfl, by rw [dec_eq_V V.bl (fun _ _ e => V.bl.inj e), dec_not]; exact q⟩)
theorem veqs {a b : Str} (ha : Val ta σ H (.str a)) (hb : Val tb σ H (.str b)) : Val (tOp rEq ta tb) σ H (.bl (decide (a = b))) := fun Q q => ha _ (hb _ ⟨rfl, by rw [dec_eq_V V.str (fun _ _ e => V.str.inj e)]; exact q⟩)
theorem vnes {a b : Str} (ha : Val ta σ H (.str a)) (hb : Val tb σ H (.str b)) : Val (tOp rNe ta tb) σ H (.bl (decide (a ≠ b))) := fun Q q => ha _ (hb _ ⟨rfl, by rw [dec_eq_V V.str (fun _ _ e => V.str.inj e), dec_not]; exact q⟩)
theorem veqv (hs : scal x y = true) (ha : Val ta σ H x) (hb : Val tb σ H y) : Val (tOp rEq ta tb) σ H (.bl (decide (x = y))) := fun Q q => ha _ (hb _ ⟨hs, q⟩)
theorem vnev (hs : scal x y = true) (ha : Val ta σ H x) (hb : Val tb σ H y) : Val (tOp rNe ta tb) σ H (.bl (decide (x ≠ y))) := fun Q q => ha _ (hb _ ⟨hs, by rw [dec_not]; exact q⟩)
abbrev rIsN : R2 := fun x y H Q => y = .non ∧ Q (.bl (decide (x = .non))) H
abbrev rNotN : R2 := fun x y H Q => y = .non ∧ Q (.bl (!decide (x = .non))) H
theorem visN (ha : Val ta σ H x) : Val (tOp rIsN ta (tC .non)) σ H (.bl (decide (x = .non))) := fun Q q => ha _ ⟨rfl, q⟩
theorem vnotN (ha : Val ta σ H x) : Val (tOp rNotN ta (tC .non)) σ H (.bl (decide (x ≠ .non))) := fun Q q => ha _ ⟨rfl, by rw [dec_not]; exact q⟩
theorem aand {p q : Prop} [Decidable p] [Decidable q] (h1 : Ans t σ H p) (h2 : p → Ans u σ H q) : Ans (tAnd t u) σ H (p ∧ q) := fun Q k => h1 _ (by
  by_cases hp : p
  · rw [decide_eq_true hp]
    refine h2 hp Q ?_
    rw [show decide q = decide (p ∧ q) from by simp [hp]]; exact k
  · rw [decide_eq_false hp]
    rw [show decide (p ∧ q) = false from by simp [hp]] at k; exact k)
theorem aor {p q : Prop} [Decidable p] [Decidable q] (h1 : Ans t σ H p) (h2 : ¬ p → Ans u σ H q) : Ans (tOr t u) σ H (p ∨ q) := fun Q k => h1 _ (by
  by_cases hp : p
  · rw [decide_eq_true hp]
    rw [show decide (p ∨ q) = true from by simp [hp]] at k; exact k
  · rw [decide_eq_false hp]
    refine h2 hp Q ?_
    rw [show decide q = decide (p ∨ q) from by simp [hp]]; exact k)
theorem anot {p : Prop} [Decidable p] (h : Ans t σ H p) : Ans (tNot t) σ H (¬ p) := fun Q k => h _ (by rw [dec_not]; exact k)
theorem ais {p q : Prop} [Decidable p] [Decidable q] (h : Ans t σ H p) (e : p ↔ q) : Ans t σ H q := fun Q k => h Q (by rw [show decide p = decide q from by simp [e]]; exact k)
theorem vchain {p q : Prop} [Decidable p] [Decidable q] {r' : R2} (ha : Val ta σ H x) (hb : Val tb σ H y) (hc : Val tc σ H z) (h1 : ∀ Q : VK, Q (.bl (decide p)) H → r x y H Q) (h2 : ∀ Q : VK, Q (.bl (decide q)) H → r' y z H Q) :
    Val (tChain r r' ta tb tc) σ H (.bl (decide (p ∧ q))) := fun Q k => ha _ (hb _ (h1 _ ⟨_, rfl, by
  by_cases hp : p
  · rw [decide_eq_true hp]
    refine hc _ (h2 Q ?_)
    rw [show decide q = decide (p ∧ q) from by simp [hp]]; exact k
  · rw [decide_eq_false hp]
    rw [show decide (p ∧ q) = false from by simp [hp]] at k; exact k⟩))
theorem r0 {g : Int → Int → V} : ∀ Q : VK, Q (g i j) H → rI0 g (.int i) (.int j) H Q := fun _ q => ⟨i, j, rfl, rfl, q⟩
theorem va0 : VA tNil σ H [] := fun _ q => q
theorem va {tr : TA} {vs : List V} (h : Val ta σ H x) (hr : VA tr σ H vs) : VA (tCons ta tr) σ H (x :: vs) := fun _ q => h _ (hr _ q)
theorem vcall {sp : Sp} {dvs vs : List V} {E : XK} {tr : TA} (ha : VA tr σ H vs) (k : ∀ Q : VK, Q v H → sp (vs ++ dvs) H Q E) : Val (tCall sp dvs E tr) σ H v := fun Q q => ha _ (k Q q)
theorem c_call {sp : Sp} {dvs vs : List V} {E : XK} {tr : TA} {Q : VK} (ha : VA tr σ H vs) (k : sp (vs ++ dvs) H Q E) : tCall sp dvs E tr σ H Q := ha _ k
abbrev rIsiK (K : PySem.W.Frag) := rIsi K
theorem visi {c : V} {cu tu : Value} {b : Bool} (ha : Val ta σ H x) (hb : Val tb σ H c) (hc : ClsV c cu) (hx : TyX K H x tu) (hk : PySem.W.kitOne K tu cu = some b) : Val (tCB (rIsi K) (tCons ta (tCons tb tNil))) σ H (.bl b) := fun Q q => ha _ (hb _ ⟨x, c, tu, cu, b, rfl, hc, hx, hk, q⟩)
/-! ### statements -/
variable {D : Ends} {tz tu tw : TS}
theorem s_set {n : Nat} (σ' : L2.St) (h : Val te σ H v) (e : σ.set n (some v) = σ') (k : tz D σ' H) : tSeq (tAsg te (gName n)) tz D σ H := h _ (by
  show tz D (σ.set n (some v)) H
  rw [e]; exact k)
def kSet (tz : TS) (D : Ends) (σ : L2.St) (n : Nat) : VK := fun v H1 => tz D (σ.set n (some v)) H1
def kDrop (tz : TS) (D : Ends) (σ : L2.St) : VK := fun _ H1 => tz D σ H1
theorem c_set {n : Nat} (k : te σ H (kSet tz D σ n)) : tSeq (tAsg te (gName n)) tz D σ H := k
theorem k_set {n : Nat} (σ' : L2.St) (e : σ.set n (some v) = σ') (k : tz D σ' H) : kSet tz D σ n v H := by
  show tz D (σ.set n (some v)) H
  rw [e]; exact k
theorem k_setv {n : Nat} (w : V) (e : v = w) (k : kSet tz D σ n w H) : kSet tz D σ n v H := e ▸ k
theorem k_drop (k : tz D σ H) : kDrop tz D σ v H := k
theorem c_setv {n : Nat} (w : V) (e : v = w) (k : tz D (σ.set n (some w)) H) : tz D (σ.set n (some v)) H := e ▸ k
theorem c_sig (σ' : L2.St) (e : σ = σ') (k : tz D σ' H) : tz D σ H := e ▸ k
theorem c_op {r : R2} {Q : VK} (k : ta σ H fun x H1 => tb σ H1 fun y H2 => r x y H2 Q) : tOp r ta tb σ H Q := k
theorem s_ret (h : Val te σ H v) (k : D.rt v H) : tSeq (tRet te) tz D σ H := h _ k
theorem c_ret (k : te σ H D.rt) : tSeq (tRet te) tz D σ H := k
theorem s_drop (h : Val te σ H v) (k : tz D σ H) : tSeq (tDrop te) tz D σ H := h _ k
theorem c_drop (k : te σ H (kDrop tz D σ)) : tSeq (tDrop te) tz D σ H := k
theorem s_nx (k : D.nx σ H) : tNext D σ H := k
theorem s_nxu {N C Z : L2.St → Hp → Prop} (k : N σ H) : tNext { D with nx := N, ct := C, bk := Z } σ H := k
theorem s_nxs (k : tz D σ H) : tNext { D with nx := tz D } σ H := k
theorem s_if {p : Prop} [Decidable p] (h : Ans t σ H p) (h1 : p → tu { D with nx := tz D } σ H) (h2 : ¬ p → tw { D with nx := tz D } σ H) : tSeq (tIfS t tu tw) tz D σ H := h _ (by
  by_cases hp : p
  · rw [decide_eq_true hp]; exact h1 hp
  · rw [decide_eq_false hp]; exact h2 hp)
theorem s_ifM {p : Prop} [Decidable p] (M : L2.St → Hp → Prop) (h : Ans t σ H p) (h1 : p → tu { D with nx := M } σ H) (h2 : ¬ p → tw { D with nx := M } σ H) (hM : ∀ s G, M s G → tz D s G)
    (mono : ∀ (N : L2.St → Hp → Prop), (∀ s G, M s G → N s G) → (tu { D with nx := M } σ H → tu { D with nx := N } σ H) ∧ (tw { D with nx := M } σ H → tw { D with nx := N } σ H)) : tSeq (tIfS t tu tw) tz D σ H := h _ (by
  by_cases hp : p
  · rw [decide_eq_true hp]; exact (mono _ hM).1 (h1 hp)
  · rw [decide_eq_false hp]; exact (mono _ hM).2 (h2 hp))
/-- if c: x = e (no else): the value behind it -/
theorem s_ifset {p : Prop} [Decidable p] {n : Nat} (σ' : L2.St) (v : V) (h : Ans t σ H p) (h1 : p → Val te σ H v) (e : σ.set n (some v) = σ') (h2 : ¬ p → σ = σ') (k : tz D σ' H) : tSeq (tIfS t (tSeq (tAsg te (gName n)) tNext) tNext) tz D σ H :=
  s_if h (fun hp => s_set σ' (h1 hp) e k) (fun hp => by rw [h2 hp]; exact k)
theorem s_aug {n : Nat} (σ' : L2.St) {g : Int → Int → Int} (hx : σ[n]? = some (some (.int i))) (h : Val te σ H (.int j)) (e : σ.set n (some (.int (g i j))) = σ') (k : tz D σ' H) : tSeq (tAug n te (ipI g)) tz D σ H :=
  ⟨.int i, hx, h _ ⟨i, j, rfl, rfl, by
    show tz D (σ.set n (some (.int (g i j)))) H
    rw [e]; exact k⟩⟩
theorem s_forL {a : Addr} {xs : List V} {n : Nat} (h : Val te σ H (.ref a)) (hx : SqL K H a xs) (Pv : Nat → L2.St → Hp → Prop) (h0 : Pv 0 σ H) (hl : ∀ i σ' H', i ≤ xs.length → Pv i σ' H' → SqL K H' a xs)
    (hs : ∀ i x σ' H', xs[i]? = some x → Pv i σ' H' → tu { D with nx := Pv (i + 1), ct := Pv (i + 1), bk := tz D } (σ'.set n (some x)) H') (hd : ∀ σ' H', Pv xs.length σ' H' → tz D σ' H') : tSeq (tFor (iList K te) (gName n) tu) tz D σ H :=
  h _ ⟨a, rfl, ⟨xs, hx⟩, for_list Pv h0 hl hs hd⟩
theorem s_forT {a : Addr} {xs : List V} {n : Nat} (h : Val te σ H (.ref a)) (hx : SqT K H a xs) (Pv : Nat → L2.St → Hp → Prop) (h0 : Pv 0 σ H) (hl : ∀ i σ' H', i ≤ xs.length → Pv i σ' H' → SqT K H' a xs)
    (hs : ∀ i x σ' H', xs[i]? = some x → Pv i σ' H' → tu { D with nx := Pv (i + 1), ct := Pv (i + 1), bk := tz D } (σ'.set n (some x)) H') (hd : ∀ σ' H', Pv xs.length σ' H' → tz D σ' H') : tSeq (tFor (iTup K te) (gName n) tu) tz D σ H :=
  h _ ⟨a, rfl, ⟨xs, hx⟩, for_tup Pv h0 hl hs hd⟩
theorem s_forR1 {tr : TA} {n : Nat} {m : Int} (h : VA tr σ H [.int m]) (hm : -(2 ^ 62) ≤ m ∧ m < 2 ^ 62) (Pv : Nat → L2.St → Hp → Prop) (h0 : Pv 0 σ H)
    (hs : ∀ (i : Nat) σ' H', (i : Int) < m → Pv i σ' H' → tu { D with nx := Pv (i + 1), ct := Pv (i + 1), bk := tz D } (σ'.set n (some (.int (i : Int)))) H') (hd : ∀ σ' H', Pv m.toNat σ' H' → tz D σ' H') : tSeq (tFor (iRng1 tr) (gName n) tu) tz D σ H :=
  h _ ⟨m, rfl, hm.1, hm.2, for_range (lo := 0) (n := m.toNat) Pv h0 (fun i σ' H' hi p => by
    show tu { D with nx := Pv (i + 1), ct := Pv (i + 1), bk := tz D } (σ'.set n (some (.int ((0 : Int) + (i : Int))))) H'
    rw [Int.zero_add]
    exact hs i σ' H' (by omega) p) hd⟩
theorem s_forR2 {tr : TA} {n : Nat} {lo m : Int} (h : VA tr σ H [.int lo, .int m]) (hm : -(2 ^ 62) ≤ lo ∧ lo < 2 ^ 62 ∧ -(2 ^ 62) ≤ m ∧ m < 2 ^ 62) (Pv : Nat → L2.St → Hp → Prop) (h0 : Pv 0 σ H)
    (hs : ∀ (i : Nat) σ' H', lo + (i : Int) < m → Pv i σ' H' → tu { D with nx := Pv (i + 1), ct := Pv (i + 1), bk := tz D } (σ'.set n (some (.int (lo + (i : Int))))) H') (hd : ∀ σ' H', Pv (m - lo).toNat σ' H' → tz D σ' H') : tSeq (tFor (iRng2 tr) (gName n) tu) tz D σ H :=
  h _ ⟨lo, m, rfl, hm, for_range (lo := lo) (n := (m - lo).toNat) Pv h0 (fun i σ' H' hi p => hs i σ' H' (by omega) p) hd⟩
end
/-- a promise's two ends -/
def sz1 {n : Nat} (h : n ≤ 1000000) : n ≤ sizeLine := Nat.le_trans h (by decide)
def sz2 {n : Nat} (h : n < 1000000) : n < sizeLine := Nat.lt_of_lt_of_le h (by decide)
section
variable {K : PySem.W.Frag} {σ σ' : L2.St} {H : Hp} {ta tb te tc : TE} {D : Ends} {tz : TS} {v : V}
theorem c_callx {sp : Sp} {dvs : List V} {E : XK} {t : TA} {Q : VK} (k : t σ H fun vs H1 => sp (vs ++ dvs) H1 Q E) : tCall sp dvs E t σ H Q := k
theorem c_cons {tr : TA} {Q : List V → Hp → Prop} (k : ta σ H fun x H1 => tr σ H1 fun xs H2 => Q (x :: xs) H2) : tCons ta tr σ H Q := k
theorem c_nil {Q : List V → Hp → Prop} (k : Q [] H) : tNil σ H Q := k
theorem c_lst {t : TA} {Q : VK} (k : t σ H fun xs H1 => xs.length ≤ sizeLine ∧ ∀ p, H1 p = none → Q (.ref p) (upd H1 p (.lst xs))) : tLst t σ H Q := k
theorem c_tup {t : TA} {Q : VK} (k : t σ H fun xs H1 => xs.length ≤ sizeLine ∧ ∀ p, H1 p = none → Q (.ref p) (upd H1 p (.tup xs))) : tTup t σ H Q := k
theorem c_cb {r : List V → Hp → VK → Prop} {t : TA} {Q : VK} (k : t σ H fun vs H1 => r vs H1 Q) : tCB r t σ H Q := k
theorem c_asg {g : TG} (k : te σ H fun v H1 => g v σ H1 (tz D)) : tSeq (tAsg te g) tz D σ H := k
theorem c_test {Q : Bool → Hp → Prop} (k : te σ H fun x H' => ∃ b, x = .bl b ∧ Q b H') : tTest te σ H Q := k
theorem s_appI {l : Addr} {xs : List Int} {n : Int} (hl : H l = some (.lst (xs.map V.int))) (ha : Val ta σ H (.ref l)) (h : Val te σ H (.int n)) (hz : xs.length < 1000000) (k : tz D σ (upd H l (.lst ((xs ++ [n]).map V.int)))) :
    tSeq (tDrop (tBM K "list" rAppend ta (tCons te tNil))) tz D σ H := ha _ ⟨Or.inl ⟨rfl, xs.map V.int, SqL.of hl⟩, h _ ⟨l, xs.map V.int, .int n, rfl, rfl, hl, by rw [List.length_map]; exact sz2 hz, by
      show tz D σ (upd H l (.lst (xs.map V.int ++ [V.int n])))
      rw [List.map_append] at k; exact k⟩⟩
theorem s_app {l : Addr} {xs : List V} (hl : H l = some (.lst xs)) (ha : Val ta σ H (.ref l)) (h : Val te σ H v) (hz : xs.length < 1000000) (k : tz D σ (upd H l (.lst (xs ++ [v])))) :
    tSeq (tDrop (tBM K "list" rAppend ta (tCons te tNil))) tz D σ H := ha _ ⟨Or.inl ⟨rfl, xs, SqL.of hl⟩, h _ ⟨l, xs, v, rfl, rfl, hl, sz2 hz, k⟩⟩
theorem ix_nat {n : Nat} {i : Int} (h0 : 0 ≤ i) (h1 : i < (n : Int)) : ixN n i = some i.toNat := by
  unfold ixN
  rw [if_pos h0, if_pos h1]
theorem map_seti (xs : List Int) (j : Nat) (n : Int) : (xs.map V.int).set j (.int n) = (xs.set j n).map V.int := by rw [List.map_set]
theorem s_setI {l : Addr} {xs : List Int} {i n : Int} (hl : H l = some (.lst (xs.map V.int))) (h : Val te σ H (.int n)) (ha : Val ta σ H (.ref l)) (hb : Val tb σ H (.int i)) (h0 : 0 ≤ i) (h1 : i < (xs.length : Int)) (k : tz D σ (upd H l (.lst ((xs.set i.toNat n).map V.int)))) :
    tSeq (tAsg te (gSub ta tb rSetL)) tz D σ H := h _ (ha _ (hb _ ⟨l, xs.map V.int, i, i.toNat, rfl, rfl, hl, ix_nat h0 (by rw [List.length_map]; exact h1), by
      rw [map_seti]; exact k⟩))
theorem s_setL {l : Addr} {xs : List V} {i : Int} (hl : H l = some (.lst xs)) (h : Val te σ H v) (ha : Val ta σ H (.ref l)) (hb : Val tb σ H (.int i)) (h0 : 0 ≤ i) (h1 : i < (xs.length : Int)) (k : tz D σ (upd H l (.lst (xs.set i.toNat v)))) :
    tSeq (tAsg te (gSub ta tb rSetL)) tz D σ H := h _ (ha _ (hb _ ⟨l, xs, i, i.toNat, rfl, rfl, hl, ix_nat h0 h1, k⟩))
end
section
variable {K : PySem.W.Frag} {σ σ' : L2.St} {H : Hp} {ta tb te tc : TE} {t u : TT} {D : Ends} {tz tu tw : TS} {v w : V} {p q : Prop} [Decidable p] [Decidable q]
theorem fin {Q : VK} (k : Q v H) (e : w = v) : Q w H := e ▸ k
theorem map_int_get {xs : List Int} {i : Nat} {x : V} (h : (xs.map V.int)[i]? = some x) : ∃ n, x = V.int n ∧ xs[i]? = some n := by
  rw [List.getElem?_map] at h
  cases e : xs[i]? with
  | none => rw [e] at h; cases h
  | some n => rw [e] at h; exact ⟨n, (Option.some.inj h).symm, rfl⟩
theorem c_ifS (k : t σ H fun b H1 => if b = true then tu { D with nx := tz D } σ H1 else tw { D with nx := tz D } σ H1) : tSeq (tIfS t tu tw) tz D σ H := k
theorem c_ite {A B : Prop} (h1 : p → A) (h2 : ¬ p → B) : if decide p = true then A else B := by
  by_cases hp : p
  · rw [decide_eq_true hp]; exact h1 hp
  · rw [decide_eq_false hp]; exact h2 hp
theorem c_iteB {b : Bool} {A B : Prop} (h1 : b = true → A) (h2 : ¬ b = true → B) : if b = true then A else B := ite2 h1 h2
theorem c_make {C : Addr} {sp : Sp} {dvs : List V} {E : XK} {tr : TA} {Q : VK} (k : tr σ H fun vs H1 => ∀ x dx, H1 x = none → H1 dx = none → dx ≠ x →
  sp (.ref x :: (vs ++ dvs)) (upd (upd H1 dx (.own x)) x (.ins C dx [])) (fun v H2 => v = .non ∧ Q (.ref x) H2) E) : tMake C sp dvs E tr σ H Q := k
theorem upd_none {x dx : Addr} {o : HO} (h : H x = none) (ne : dx ≠ x) : upd H dx o x = none := by rw [upd_ne (Ne.symm ne)]; exact h
theorem Hs.start1 {x : Addr} {o : HO} (h : H x = some o) : Hs [x] H [(x, o)] H :=
  Hs.startF (fun q hq => by rw [List.mem_singleton.mp hq]; exact ⟨h, List.mem_singleton.mpr rfl⟩) (by simp)
theorem Hs.sep {F : List Addr} {B : Hp} {L R : List (Addr × HO)} (s : Hs F B L H) (is js : List Nat) {G : List Addr} (hd : ∀ i ∈ is, ∀ j ∈ js, i ≠ j) (h : is.map (fun i => L[i]?) = R.map some) (hg : js.map (fun j => (L[j]?).map (·.1)) = G.map some) : ∀ q ∈ R, q.1 ∉ G := fun q hq hm => by
  have h1 : some q ∈ is.map (fun i => L[i]?) := by rw [h]; exact List.mem_map.mpr ⟨q, hq, rfl⟩
  obtain ⟨i, hi, e1⟩ := List.mem_map.mp h1
  have h2 : some q.1 ∈ js.map (fun j => (L[j]?).map (·.1)) := by rw [hg]; exact List.mem_map.mpr ⟨q.1, hm, rfl⟩
  obtain ⟨j, hj, e2⟩ := List.mem_map.mp h2
  refine hd i hi j hj (nodup_at s.nd (x := q.1) ?_ ?_)
  · rw [List.getElem?_map]
    have e1' : L[i]? = some q := e1
    rw [e1']; rfl
  · rw [List.getElem?_map]; exact e2
theorem s_fld {a C dx : Addr} {f : Str} {fs : List (Str × V)} (fs' : List (Str × V)) (hv : Val tb σ H v) (ha : Val ta σ H (.ref a)) (ho : H a = some (.ins C dx fs)) (hc : Cls K C) (hn : NoAttr K C f) (hl : fs.length < 1000) (e : putF f v fs = fs')
    (k : tz D σ (upd H a (.ins C dx fs'))) : tSeq (sFld K ta tb f) tz D σ H := hv _ (ha _ ⟨a, C, dx, fs, rfl, ho, hc, hn, hl, by
      show tz D σ (upd H a (.ins C dx (putF f v fs)))
      rw [e]; exact k⟩)
theorem rep_one (n : Nat) (v : V) : (List.replicate n [v]).flatten = List.replicate n v := by
  induction n with
  | zero => rfl
  | succ n ih => rw [List.replicate_succ, List.flatten_cons, ih]; rfl
theorem dp_ints : ∀ ns : List Int, DpAll K H (ns.map V.int) (ns.map PyData.int)
  | [] => .nil
  | n :: r => .cons (.int n) (dp_ints r)
theorem lay_ints : ∀ ns : List Int, PyData.canLayAll0 (ns.map PyData.int) = true
  | [] => rfl
  | _ :: r => lay_ints r
theorem dep_ints : ∀ ns : List Int, PyData.depthAll (ns.map PyData.int) ≤ 1
  | [] => by decide
  | _ :: r => by
    have := dep_ints r
    show max _ (PyData.depthAll (r.map PyData.int)) ≤ 1
    exact Nat.max_le.mpr ⟨Nat.zero_le _, this⟩
theorem dep_ints0 : ∀ ns : List Int, PyData.depthAll (ns.map PyData.int) = 0
  | [] => rfl
  | _ :: r => by
    show max 0 (PyData.depthAll (r.map PyData.int)) = 0
    rw [dep_ints0 r]; rfl
theorem shp_ints (ns : List Int) : SeqAt.shaped (.list (ns.map PyData.int)) = true := by
  unfold SeqAt.shaped
  refine Bool.and_eq_true_iff.mpr ⟨lay_ints ns, decide_eq_true ?_⟩
  have := dep_ints ns
  show _ ≤ 64
  simp only [PyData.depth]
  omega
theorem vand (ha : Val ta σ H (.bl (decide p))) (hb : p → Val tb σ H (.bl (decide q))) : Val (tAndV ta tb) σ H (.bl (decide (p ∧ q))) := fun Q k => ha _ ⟨_, rfl, by
  by_cases hp : p
  · rw [decide_eq_true hp]
    refine hb hp Q ?_
    rw [show decide q = decide (p ∧ q) from by simp [hp]]; exact k
  · rw [decide_eq_false hp]
    rw [show decide (p ∧ q) = false from by simp [hp]] at k; exact k⟩
theorem vor (ha : Val ta σ H (.bl (decide p))) (hb : ¬ p → Val tb σ H (.bl (decide q))) : Val (tOrV ta tb) σ H (.bl (decide (p ∨ q))) := fun Q k => ha _ ⟨_, rfl, by
  by_cases hp : p
  · rw [decide_eq_true hp]
    rw [show decide (p ∨ q) = true from by simp [hp]] at k; exact k
  · rw [decide_eq_false hp]
    refine hb hp Q ?_
    rw [show decide q = decide (p ∨ q) from by simp [hp]]; exact k⟩
theorem vnot (ha : Val ta σ H (.bl (decide p))) : Val (tNotV ta) σ H (.bl (decide (¬ p))) := fun Q k => ha _ ⟨_, rfl, by rw [dec_not]; exact k⟩
/-! loops turn by turn -/
def Unr (tu : TS) (D : Ends) (tz : TS) (j : Nat) : Nat → Nat → L2.St → Hp → Prop
  | 0, _, σ, H => tz D σ H
  | m + 1, i, σ, H => tu { D with nx := Unr tu D tz j m (i + 1), ct := Unr tu D tz j m (i + 1), bk := tz D } (σ.set j (some (.int (i : Int)))) H
theorem s_unrR1 {tr : TA} {n m : Nat} (h : VA tr σ H [.int (m : Int)]) (hm : m < 1000) (k : Unr tu D tz n m 0 σ H) : tSeq (tFor (iRng1 tr) (gName n) tu) tz D σ H :=
  s_forR1 h ⟨by omega, by omega⟩ (fun i σ H => Unr tu D tz n (m - i) i σ H) (by exact k) (fun i σ' H' hi p => by
    have e : m - i = (m - (i + 1)) + 1 := by omega
    rw [e] at p
    exact p) (fun σ' H' p => by
    rw [show m - (m : Int).toNat = 0 by omega] at p
    exact p)
theorem u_done {j i : Nat} (k : tz D σ H) : Unr tu D tz j 0 i σ H := k
theorem u_next {j m i : Nat} (k : tu { D with nx := Unr tu D tz j m (i + 1), ct := Unr tu D tz j m (i + 1), bk := tz D } (σ.set j (some (.int (i : Int)))) H) : Unr tu D tz j (m + 1) i σ H := k
theorem visb {a b : Bool} (ha : Val ta σ H (.bl a)) (hb : Val tb σ H (.bl b)) : Val (tOp rIsB ta tb) σ H (.bl (decide (a = b))) := fun Q q => ha _ (hb _ ⟨a, b, rfl, rfl, q⟩)
theorem vnotb {a b : Bool} (ha : Val ta σ H (.bl a)) (hb : Val tb σ H (.bl b)) : Val (tOp rNotB ta tb) σ H (.bl (decide (a ≠ b))) := fun Q q => ha _ (hb _ ⟨a, b, rfl, rfl, by rw [dec_not]; exact q⟩)
theorem Hs.tl {F : List Addr} {B : Hp} {L : List (Addr × HO)} {x : Addr × HO} (s : Hs F B (x :: L) H) : Hs F B L H :=
  ⟨s.fr, s.al, fun q h => s.own q (List.mem_cons_of_mem _ h), fun q h => s.fs q (List.mem_cons_of_mem _ h), (List.nodup_cons.mp s.nd).2⟩
theorem range_map_snoc (f : Nat → Int) (i : Nat) : (((List.range (i + 1)).map f).map V.int) = (((List.range i).map f).map V.int) ++ [V.int (f i)] := by
  rw [List.range_succ, List.map_append, List.map_append]; rfl
theorem c_lcR {F : List Addr} {B : Hp} {L : List (Addr × HO)} {n : Int} {tr : TA} {j : Nat} {vs : List Nat} {Q : VK} (f : Nat → Int) (s : Hs F B L H) (h : VA tr σ H [.int n]) (hn : 0 ≤ n ∧ n ≤ 1000000) (hw : ∀ x, wipe ((wipe σ vs).set j (some x)) vs = wipe σ vs)
    (he : ∀ (i : Nat) H', (i : Int) < n → Hs F B L H' → Val te ((wipe σ vs).set j (some (.int (i : Int)))) H' (.int (f i)))
    (k : ∀ D H', Hs F B ((D, .lst (((List.range n.toNat).map f).map V.int)) :: L) H' → Q (.ref D) H') : tLc (iRng1 tr) (gName j) tYes te vs σ H Q :=
  h _ ⟨n, rfl, by omega, by omega, fun D hD => lc_range (lo := 0) (n := n.toNat) (fun i H' => Hs F B ((D, .lst (((List.range i).map f).map V.int)) :: L) H') (s.new hD _) (fun i H' hi p => by
    show wipe ((wipe σ vs).set j (some (.int ((0 : Int) + (i : Int))))) vs = wipe σ vs ∧ te ((wipe σ vs).set j (some (.int ((0 : Int) + (i : Int))))) H' fun y H4 => ∃ acc, H4 D = some (.lst acc) ∧ acc.length < sizeLine ∧ Hs F B ((D, .lst (((List.range (i + 1)).map f).map V.int)) :: L) (upd H4 D (.lst (acc ++ [y])))
    rw [Int.zero_add]
    refine ⟨hw _, he i H' (by omega) p.tl _ ⟨((List.range i).map f).map V.int, p.mem 0 rfl, sz2 (by simp only [List.length_map, List.length_range]; omega), ?_⟩⟩
    rw [range_map_snoc]
    exact p.wr 0 _ rfl) (fun H' p => k D H' p)⟩
theorem c_yes {A B : Prop} (hp : p) (k : A) : if decide p = true then A else B := by rw [decide_eq_true hp]; exact k
theorem c_no {A B : Prop} (hp : ¬ p) (k : B) : if decide p = true then A else B := by rw [decide_eq_false hp]; exact k
theorem ty_l {a : Addr} {xs : List V} (h : SqL K H a xs) : tyV K "list" (.ref a) H := .inl ⟨rfl, xs, h⟩
theorem pe_nev {X : Cx} {e : Expr} : PE X e (fun _ _ _ => False) := ⟨fun _ _ _ _ _ _ h => h.elim⟩
theorem pt_nev {X : Cx} {e : Expr} : PT X e (fun _ _ _ => False) := ⟨fun _ _ _ _ _ _ h => h.elim⟩
theorem kQb {b : Bool} {P : Hp → Prop} (Q : VK) (k : ∀ H', P H' → Q (.bl (decide (b = true))) H') : ∀ H', P H' → Q (.bl b) H' := fun H' h => by
  have := k H' h
  rwa [show decide (b = true) = b from by cases b <;> rfl] at this
theorem c_andV {F : List Addr} {B : Hp} {L : List (Addr × HO)} {Q : VK} (s : Hs F B L H) (ha : Val ta σ H (.bl (decide p))) (hb : p → ∀ Q : VK, (∀ H', Hs F B L H' → Q (.bl (decide q)) H') → tb σ H Q)
    (k : ∀ H', Hs F B L H' → Q (.bl (decide (p ∧ q))) H') : tAndV ta tb σ H Q := ha _ ⟨_, rfl, by
  by_cases hp : p
  · rw [decide_eq_true hp]
    refine hb hp Q fun H' h => ?_
    rw [show decide q = decide (p ∧ q) from by simp [hp]]; exact k H' h
  · rw [decide_eq_false hp]
    have := k H s
    rw [show decide (p ∧ q) = false from by simp [hp]] at this; exact this⟩
theorem c_orV {F : List Addr} {B : Hp} {L : List (Addr × HO)} {Q : VK} (s : Hs F B L H) (ha : Val ta σ H (.bl (decide p))) (hb : ¬ p → ∀ Q : VK, (∀ H', Hs F B L H' → Q (.bl (decide q)) H') → tb σ H Q)
    (k : ∀ H', Hs F B L H' → Q (.bl (decide (p ∨ q))) H') : tOrV ta tb σ H Q := ha _ ⟨_, rfl, by
  by_cases hp : p
  · rw [decide_eq_true hp]
    have := k H s
    rw [show decide (p ∨ q) = true from by simp [hp]] at this; exact this
  · rw [decide_eq_false hp]
    refine hb hp Q fun H' h => ?_
    rw [show decide q = decide (p ∨ q) from by simp [hp]]; exact k H' h⟩
theorem c_iten {A B : Prop} (h2 : ¬ p → A) (h1 : p → B) : if (!decide p) = true then A else B := by
  by_cases hp : p
  · rw [decide_eq_true hp]; exact h1 hp
  · rw [decide_eq_false hp]; exact h2 hp
theorem c_iteBn {b : Bool} {A B : Prop} (h2 : ¬ b = true → A) (h1 : b = true → B) : if (!b) = true then A else B := by
  cases b with
  | true => exact h1 rfl
  | false => exact h2 Bool.false_ne_true
theorem c_or {Q : Bool → Hp → Prop} (k : t σ H fun c H1 => if c = true then Q true H1 else u σ H1 Q) : tOr t u σ H Q := k
theorem c_and {Q : Bool → Hp → Prop} (k : t σ H fun c H1 => if c = true then u σ H1 Q else Q false H1) : tAnd t u σ H Q := k
theorem c_not {Q : Bool → Hp → Prop} (k : t σ H fun c H1 => Q (!c) H1) : tNot t σ H Q := k
theorem c_tB {Q : Bool → Hp → Prop} (k : te σ H fun x H' => ∃ b, x = .bl b ∧ Q b H') : tB te σ H Q := k
theorem flat_ints (ns : List Int) : (ns.map V.int).all flatV = true := by
  induction ns with
  | nil => rfl
  | cons n r ih => exact ih
theorem inV_ints (a : Int) (ns : List Int) : inV (V.int a) (ns.map V.int) = decide (a ∈ ns) := by
  induction ns with
  | nil => rfl
  | cons n r ih =>
    have e : inV (V.int a) ((n :: r).map V.int) = (n == a || inV (V.int a) (r.map V.int)) := rfl
    rw [e, ih]
    by_cases h : n = a
    · subst h; simp
    · have h2 : ¬ a = n := fun z => h z.symm
      simp [h, h2]
theorem r_in {a : Int} {ns : List Int} {p : Addr} {Q : VK} (h : SqL K H p (ns.map V.int) ∨ SqT K H p (ns.map V.int)) (k : Q (.bl (decide (a ∈ ns))) H) : rIn K false (.int a) (.ref p) H Q :=
  ⟨p, ns.map V.int, rfl, h, rfl, flat_ints _, by
    show Q (.bl (inV (V.int a) (ns.map V.int))) H
    rw [inV_ints]; exact k⟩
theorem r_notin {a : Int} {ns : List Int} {p : Addr} {Q : VK} (h : SqL K H p (ns.map V.int) ∨ SqT K H p (ns.map V.int)) (k : Q (.bl (decide (¬ (a ∈ ns)))) H) : rIn K true (.int a) (.ref p) H Q :=
  ⟨p, ns.map V.int, rfl, h, rfl, flat_ints _, by
    show Q (.bl (!inV (V.int a) (ns.map V.int))) H
    rw [inV_ints, dec_not]; exact k⟩
theorem inI_t {a : Int} {ns : List Int} (h : (if false = true then !inV (V.int a) (ns.map V.int) else inV (V.int a) (ns.map V.int)) = true) : a ∈ ns := by
  have h' : inV (V.int a) (ns.map V.int) = true := h
  rw [inV_ints] at h'; exact of_decide_eq_true h'
theorem inI_f {a : Int} {ns : List Int} (h : ¬ (if false = true then !inV (V.int a) (ns.map V.int) else inV (V.int a) (ns.map V.int)) = true) : ¬ a ∈ ns := fun z => h (by
  show inV (V.int a) (ns.map V.int) = true
  rw [inV_ints]; exact decide_eq_true z)
theorem niI_t {a : Int} {ns : List Int} (h : (if true = true then !inV (V.int a) (ns.map V.int) else inV (V.int a) (ns.map V.int)) = true) : ¬ a ∈ ns := fun z => by
  have h' : (!inV (V.int a) (ns.map V.int)) = true := h
  rw [inV_ints, decide_eq_true z] at h'; cases h'
theorem niI_f {a : Int} {ns : List Int} (h : ¬ (if true = true then !inV (V.int a) (ns.map V.int) else inV (V.int a) (ns.map V.int)) = true) : a ∈ ns := by
  refine Decidable.byContradiction fun z => h ?_
  show (!inV (V.int a) (ns.map V.int)) = true
  rw [inV_ints, decide_eq_false z]; rfl
end
end G
local macro_rules | `(tactic| walk_at "side") => `(tactic| first | omega | assumption | decide | exact Int.emod_nonneg _ (by omega) | exact Int.emod_lt_of_pos _ (by omega) | (simp only [List.length_map, List.length_append, List.length_cons, List.length_nil, List.length_replicate, List.length_set, G.gi] <;> omega) | (simp <;> omega))
local macro_rules | `(tactic| walk_at "cmul") => `(tactic| first | decide | (constructor <;> omega))
local macro_rules | `(tactic| walk_at "cmul2") => `(tactic| first | exact .inl (by constructor <;> omega) | exact .inr (by constructor <;> omega))
local macro_rules | `(tactic| walk_at "dead") => `(tactic| first | omega | contradiction | (simp_all; done) | (simp_all; omega))
local macro_rules | `(tactic| walk_at "finL") => `(tactic| first | rfl | (subst_vars; rfl) | (simp; done))
local macro_rules | `(tactic| walk_at "inv") => `(tactic| first | assumption | rfl | omega | (simp; done) | (simp_all; done))
local macro_rules | `(tactic| walk_at "fin") => `(tactic| first | rfl | (simp_all; done))
local macro_rules | `(tactic| walk_at "shp") => `(tactic| first | rfl | decide | (unfold PySem.SeqAt.shaped; simp [PySem.PyData.canLay0, PySem.PyData.canLayAll0, PySem.PyData.depth, PySem.PyData.depthAll, G.lay_ints, G.dep_ints0]; done) | exact G.shp_ints _)
local macro_rules | `(tactic| walk_at "known") => `(tactic| first | decide | (simp; done) | omega | (simp_all; done))
namespace X
open PySem PySem.Spec PyProof.Rows L2 G
def topS (i : Nat) : Stmt := PySem.Challenge.pw_segmentfs_k00_kinds_of_blocks.main.body.getD i (.Pass ⟨0, 0, 0, 0⟩)
abbrev st_is_payload : Stmt := topS 6
abbrev st_payload_of : Stmt := topS 7
abbrev st_stamped : Stmt := topS 8
abbrev st__law_row : Stmt := topS 10
abbrev st__law_bodies : Stmt := topS 11
abbrev st_law : Stmt := topS 12
structure Ads where
  a_is_payload : Addr
  d_is_payload : FuncData
  a_payload_of : Addr
  d_payload_of : FuncData
  a_stamped : Addr
  d_stamped : FuncData
  a__law_row : Addr
  d__law_row : FuncData
  a__law_bodies : Addr
  d__law_bodies : FuncData
  a_law : Addr
  d_law : FuncData
  t_COMMIT : Tok
  t_DATA : Tok
  t_MOVE : Tok
  t_NODE : Tok
  t_PART : Tok
structure Txt (K : PySem.W.Frag) (mg : Str → Option Value) (A : Ads) : Prop where
  F_is_payload : Fun K "is_payload" "is_payload" st_is_payload A.a_is_payload A.d_is_payload
  b_is_payload : Binds K A.d_is_payload ["block"] []
  g_is_payload : mg "is_payload" = some (.ref A.a_is_payload)
  F_payload_of : Fun K "payload_of" "payload_of" st_payload_of A.a_payload_of A.d_payload_of
  b_payload_of : Binds K A.d_payload_of ["block"] []
  g_payload_of : mg "payload_of" = some (.ref A.a_payload_of)
  F_stamped : Fun K "stamped" "stamped" st_stamped A.a_stamped A.d_stamped
  b_stamped : Binds K A.d_stamped ["payload", "sequence", "rank"] []
  g_stamped : mg "stamped" = some (.ref A.a_stamped)
  F__law_row : Fun K "_law_row" "_law_row" st__law_row A.a__law_row A.d__law_row
  b__law_row : Binds K A.d__law_row ["_law_script", "_law_k"] []
  g__law_row : mg "_law_row" = some (.ref A.a__law_row)
  F__law_bodies : Fun K "_law_bodies" "_law_bodies" st__law_bodies A.a__law_bodies A.d__law_bodies
  b__law_bodies : Binds K A.d__law_bodies ["_law_row_here"] []
  g__law_bodies : mg "_law_bodies" = some (.ref A.a__law_bodies)
  F_law : Fun K "law" "law" st_law A.a_law A.d_law
  b_law : Binds K A.d_law ["_law_script"] []
  g_law : mg "law" = some (.ref A.a_law)
  k_COMMIT : mg "COMMIT" = some (.int 1 A.t_COMMIT)
  k_DATA : mg "DATA" = some (.int 3 A.t_DATA)
  k_MOVE : mg "MOVE" = some (.int 2 A.t_MOVE)
  k_NODE : mg "NODE" = some (.int 4 A.t_NODE)
  k_PART : mg "PART" = some (.int 5 A.t_PART)
  z_bool : mg "bool" = none
  z_int : mg "int" = none
  z_isinstance : mg "isinstance" = none
  z_len : mg "len" = none
  z_range : mg "range" = none
  z_sorted : mg "sorted" = none
  z_tuple : mg "tuple" = none
theorem sc_is_payload : FnScope ["block"] ["block"] (defScope st_is_payload) := ⟨rfl, rfl, rfl, by decide +kernel, rfl, by decide +kernel, by decide +kernel⟩
theorem sc_payload_of : FnScope ["block"] ["block"] (defScope st_payload_of) := ⟨rfl, rfl, rfl, by decide +kernel, rfl, by decide +kernel, by decide +kernel⟩
theorem sc_stamped : FnScope ["payload", "sequence", "rank"] ["payload", "sequence", "rank"] (defScope st_stamped) := ⟨rfl, rfl, rfl, by decide +kernel, rfl, by decide +kernel, by decide +kernel⟩
theorem sc__law_row : FnScope ["_law_script", "_law_k", "_law_cell", "_law_first", "_law_second"] ["_law_script", "_law_k"] (defScope st__law_row) := ⟨rfl, rfl, rfl, by decide +kernel, rfl, by decide +kernel, by decide +kernel⟩
theorem sc__law_bodies : FnScope ["_law_row_here", "_law_size", "_law_ids", "_law_bodies_here", "_law_k"] ["_law_row_here"] (defScope st__law_bodies) := ⟨rfl, rfl, rfl, by decide +kernel, rfl, by decide +kernel, by decide +kernel⟩
theorem sc_law : FnScope ["_law_script", "_law_bodies_here", "_law_sequence", "_law_rank", "_law_k", "_law_block", "_law_due", "_law_told", "_law_payload", "_law_again"] ["_law_script"] (defScope st_law) := ⟨rfl, rfl, rfl, by decide +kernel, rfl, by decide +kernel, by decide +kernel⟩

/-! ### mathematics of the law's helpers -/
def rowC0 (ns : List Int) (k : Int) : Int := if (ns.length : Int) > 0 then gi ns (k % (ns.length : Int)) else 0
def rowC (ns : List Int) (k : Int) : Int := if rowC0 ns k < 0 then 1 - 2 * rowC0 ns k else rowC0 ns k
def rowA (ns : List Int) (k : Int) : Int := (rowC ns k * 48271 + (k + 1) * 69621 + (ns.length : Int)) % 2147483647
def rowB (ns : List Int) (k : Int) : Int := (rowA ns k * rowA ns k + rowC ns k * 16807 + k) % 2147483629
def rowF (ns : List Int) (k : Int) : Int := if rowC ns k ≥ 1000000000 ∧ k < (ns.length : Int) then rowC ns k else rowB ns k * 2147483647 + (rowA ns k * 40692) % 2147483399
theorem rowF_nn (ns : List Int) (k : Int) : 0 ≤ rowF ns k := by
  unfold rowF
  split
  · omega
  · have h1 : 0 ≤ rowB ns k := Int.emod_nonneg _ (by decide)
    have h2 : 0 ≤ (rowA ns k * 40692) % 2147483399 := Int.emod_nonneg _ (by decide)
    omega
def digF : Int → List Int → List Int
  | _, [] => []
  | r, s :: t => (r % s) :: digF (r / s) t
def digR : Int → List Int → Int
  | r, [] => r
  | r, s :: t => digR (r / s) t
theorem digF_app (r : Int) (a : List Int) (s : Int) : digF r (a ++ [s]) = digF r a ++ [digR r a % s] := by
  induction a generalizing r with
  | nil => rfl
  | cons x a ih => show (r % x) :: digF (r / x) (a ++ [s]) = _; rw [ih]; rfl
theorem digR_app (r : Int) (a : List Int) (s : Int) : digR r (a ++ [s]) = digR r a / s := by
  induction a generalizing r with
  | nil => rfl
  | cons x a ih => show digR (r / x) (a ++ [s]) = _; rw [ih]; rfl
theorem digR_nn (r : Int) (a : List Int) (hr : 0 ≤ r) (h : ∀ s ∈ a, 0 < s) : 0 ≤ digR r a := by
  induction a generalizing r with
  | nil => exact hr
  | cons x a ih => exact ih _ (Int.ediv_nonneg hr (Int.le_of_lt (h x List.mem_cons_self))) fun s hs => h s (List.mem_cons_of_mem _ hs)
theorem take_next {xs : List Int} {i : Nat} {n : Int} (h : xs[i]? = some n) : xs.take (i + 1) = xs.take i ++ [n] := by
  rw [List.take_add_one, h]; rfl
theorem digF_len (r : Int) (a : List Int) : (digF r a).length = a.length := by
  induction a generalizing r with
  | nil => rfl
  | cons x a ih => show (digF (r / x) a).length + 1 = a.length + 1; rw [ih]
theorem mem_at {xs : List Int} {i : Nat} {n : Int} (h : xs[i]? = some n) : n ∈ xs := List.mem_of_getElem? h
theorem at_lt {α : Type} {xs : List α} {i : Nat} {n : α} (h : xs[i]? = some n) : i < xs.length := (List.getElem?_eq_some_iff.mp h).1
/-! a layout by its three sizes -/
structure Lay where
  g : Int
  b : Int
  z : Int
def Lay.pay (l : Lay) : Int := l.b - 1
def Lay.lim (l : Lay) : Int := (l.g - 2) * l.pay
def Lay.last (l : Lay) : Int := l.lim + l.pay
def Lay.reg (l : Lay) : Int := (2 * (4 * l.last + 3 + 3 + l.g) + l.z - 1) / l.z
def Lay.dev (l : Lay) : Int := 2 * l.reg + l.g * l.b
def Lay.ok (l : Lay) : Prop := 4 ≤ l.g ∧ l.g ≤ 16 ∧ 16 ≤ l.b ∧ l.b ≤ 32 ∧ (l.z = 64 ∨ l.z = 128 ∨ l.z = 256) ∧ 16 + 2 * (l.b - 1) + ((l.g - 2) * (l.b - 1) + (l.b - 1) + 8 - 1) / 8 ≤ l.z
instance (l : Lay) : Decidable l.ok := by unfold Lay.ok; infer_instance
theorem lay_least : (⟨4, 16, 64⟩ : Lay).ok := by decide
theorem lay_ok {g b z i : Int} (h1 : 4 ≤ g) (h2 : g ≤ 16) (h3 : 16 ≤ b) (h4 : b ≤ 32) (h5 : z = 64 ∨ z = 128 ∨ z = 256) (e : i = (g - 1) * (b - 1)) (h : ¬ (16 + 2 * (b - 1) + (i + 7) / 8 > z)) : (⟨g, b, z⟩ : Lay).ok := by
  refine ⟨h1, h2, h3, h4, h5, ?_⟩
  show 16 + 2 * (b - 1) + ((g - 2) * (b - 1) + (b - 1) + 8 - 1) / 8 ≤ z
  have e2 : (g - 2) * (b - 1) + (b - 1) = (g - 1) * (b - 1) := by
    have : g - 1 = (g - 2) + 1 := by omega
    rw [this, Int.add_mul, Int.one_mul]
  rw [e2, ← e]
  have : i + 8 - 1 = i + 7 := by omega
  rw [this]; omega
theorem mul_bd {a b c d : Int} (h1 : 0 ≤ a) (h2 : a ≤ c) (h3 : 0 ≤ b) (h4 : b ≤ d) : 0 ≤ a * b ∧ a * b ≤ c * d :=
  ⟨Int.mul_nonneg h1 h3, Int.mul_le_mul h2 h4 h3 (Int.le_trans h1 h2)⟩
theorem Lay.ok.bounds {l : Lay} (h : l.ok) : 45 ≤ l.last ∧ l.last ≤ 465 ∧ 0 < l.reg ∧ l.reg ≤ 100 := by
  obtain ⟨h1, h2, h3, h4, h5, h6⟩ := h
  have hl : l.last = (l.g - 1) * (l.b - 1) := by
    show (l.g - 2) * (l.b - 1) + (l.b - 1) = _
    have : l.g - 1 = (l.g - 2) + 1 := by omega
    rw [this, Int.add_mul, Int.one_mul]
  have b1 := mul_bd (a := l.g - 1) (b := l.b - 1) (c := 15) (d := 31) (by omega) (by omega) (by omega) (by omega)
  have b2 : 3 * 15 ≤ (l.g - 1) * (l.b - 1) := (Int.mul_le_mul (a := 3) (b := 15) (by omega) (by omega) (by omega) (by omega))
  have e1 : 45 ≤ l.last := by omega
  have e2 : l.last ≤ 465 := by omega
  refine ⟨e1, e2, ?_, ?_⟩
  · unfold Lay.reg
    rcases h5 with h | h | h <;> rw [h] <;> omega
  · unfold Lay.reg
    rcases h5 with h | h | h <;> rw [h] <;> omega
theorem gi_rep (n : Nat) (v : Int) : gi (List.replicate n v) 0 = if n = 0 then 0 else v := by
  cases n <;> rfl
theorem rep_bd {n : Nat} {m : Int} (h : 0 < m) : ∀ q ∈ List.replicate n (0 : Int), 0 ≤ q ∧ q < m := fun q hq => by
  rw [List.eq_of_mem_replicate hq]; omega
theorem gi_set0 {t : List Int} {i v : Int} (h : 1 ≤ i) : gi (t.set i.toNat v) 0 = gi t 0 := by
  show (t.set i.toNat v).getD 0 0 = t.getD 0 0
  rw [List.getD_eq_getElem?_getD, List.getD_eq_getElem?_getD, List.getElem?_set_ne (by omega)]
theorem set_bd {t : List Int} {i v m : Int} (h : ∀ q ∈ t, 0 ≤ q ∧ q < m) (h0 : 0 ≤ v) (h1 : v < m) : ∀ q ∈ t.set i.toNat v, 0 ≤ q ∧ q < m := fun q hq => by
  rcases List.mem_or_eq_of_mem_set hq with z | z
  · exact h q z
  · rw [z]; exact ⟨h0, h1⟩

section
variable {P : Program} {w : World} {K : PySem.W.Frag} {mg : Str → Option Value} {base : Heap} {A : Ads}
def sp_is_payload_0 (K : PySem.W.Frag) (A : Ads) : Sp := fun vs H Q _ => vs = [V.non] ∧ ∀  (H' : Hp), Hs [] H [] H' → Q (V.bl false) H'
def sp_is_payload_1 (K : PySem.W.Frag) (A : Ads) : Sp := fun vs H Q _ => ∃ (a : Addr) (k q r : Int) (b : V), vs = [V.ref a] ∧ (SqT K H a [V.int k, V.int q, V.int r, b]) ∧ ∀  (H' : Hp), Hs [] H [] H' → Q (V.bl (decide (k = 3 ∨ k = 4))) H'
def sp_is_payload (K : PySem.W.Frag) (A : Ads) : Sp := fun vs H Q E => sp_is_payload_0 K A vs H Q E ∨ sp_is_payload_1 K A vs H Q E
theorem ok_is_payload (T : Txt K mg A) : FnOk P w K mg base CX0 1 A.a_is_payload A.d_is_payload ["block"] (sp_is_payload K A) := by
  refine T.F_is_payload.ok sc_is_payload (fun vs H Q E h => ?_) (fun cdv A' outer s H vs Q E hRm h => ?_)
  · rcases h with h | h
    · obtain ⟨rfl, _⟩ := h
      rfl
    · obtain ⟨a, k, q, r, b, rfl, _⟩ := h
      rfl
  · rcases h with h | h
    · obtain ⟨rfl, kq⟩ := h
      have hUn := hu_of hRm
      have s0 : Hs [] H [] H := Hs.start H
      refine ⟨_, (pss_cons (ps_ret (pe_and (pe_cmpR op_notN (pv 0) pe_non (nomark _)) (pe_one pe_nev))) pss_nil), ?_⟩
      refine c_sig [some (V.non)] rfl ?_
      refine c_ret ?_
      refine (vnotN (vv 0 rfl)) _ ⟨_, rfl, c_no (by walk_at "known") ?_⟩
      have s1 : Hs [] H [] _ := (s0.pick [] (by decide) (by walk_at "finL"))
      exact fin (kq  _ s1 ) (by first | rfl | simp)
    · obtain ⟨a, k, q, r, b, rfl, hT, kq⟩ := h
      have hUn := hu_of hRm
      have s0 : Hs [] H [] H := Hs.start H
      refine ⟨_, (pss_cons (ps_ret (pe_and (pe_cmpR op_notN (pv 0) pe_non (nomark _)) (pe_one (pe_cmpR op_in_seq (pe_ix ix_tup (pv 0) pe_int (fun _ _ => rfl)) (pe_tup (pa_cons (pe_glob (v := .int 3) (by rfl) T.k_DATA (by exact ⟨_, rfl⟩)) (pa_cons (pe_glob (v := .int 4) (by rfl) T.k_NODE (by exact ⟨_, rfl⟩)) pa_nil))) (by with_unfolding_all rfl))))) pss_nil), ?_⟩
      refine c_sig [some (V.ref a)] rfl ?_
      refine c_ret ?_
      refine (vnotN (vv 0 rfl)) _ ⟨_, rfl, c_yes (by walk_at "known") ?_⟩
      refine c_op ?_
      refine (vixT (vv 0 rfl) vc (xs := _) (s0.sqt hT) (by rfl)) _ ?_
      refine c_tup ?_
      refine c_cons ?_
      refine vc _ ?_
      refine c_cons ?_
      refine vc _ ?_
      refine c_nil ?_
      refine ⟨sz1 (by show 2 ≤ 1000000; decide), fun p2 np2 => ?_⟩
      have s3 : Hs [] H [(p2, .tup ([V.int 3, V.int 4]))] _ := s0.new np2 (.tup ([V.int 3, V.int 4]))
      refine r_in (ns := ([3, 4])) (.inr (s3.t 0 rfl)) ?_
      have s4 : Hs [] H [] _ := (s3.pick [] (by decide) (by walk_at "finL"))
      exact fin (kq  _ s4 ) (by first | rfl | simp)
def sp_payload_of_0 (K : PySem.W.Frag) (A : Ads) : Sp := fun vs H Q _ => vs = [V.non] ∧ ∀  (H' : Hp), Hs [] H [] H' → Q (V.non) H'
def sp_payload_of_1 (K : PySem.W.Frag) (A : Ads) : Sp := fun vs H Q _ => ∃ (a : Addr) (k q r : Int) (b : V), vs = [V.ref a] ∧ (SqT K H a [V.int k, V.int q, V.int r, b]) ∧ (k = 3 ∨ k = 4) ∧ ∀ (p : Addr) (H' : Hp), Hs [] H [(p, .tup ([V.int k, b]))] H' → Q (V.ref p) H'
def sp_payload_of_2 (K : PySem.W.Frag) (A : Ads) : Sp := fun vs H Q _ => ∃ (a : Addr) (k q r : Int) (b : V), vs = [V.ref a] ∧ (SqT K H a [V.int k, V.int q, V.int r, b]) ∧ (¬ (k = 3 ∨ k = 4)) ∧ ∀  (H' : Hp), Hs [] H [] H' → Q (V.non) H'
def sp_payload_of (K : PySem.W.Frag) (A : Ads) : Sp := fun vs H Q E => sp_payload_of_0 K A vs H Q E ∨ sp_payload_of_1 K A vs H Q E ∨ sp_payload_of_2 K A vs H Q E
theorem ok_payload_of (T : Txt K mg A) : FnOk P w K mg base CX0 2 A.a_payload_of A.d_payload_of ["block"] (sp_payload_of K A) := by
  have G_is_payload : FnOk P w K mg base CX0 1 A.a_is_payload A.d_is_payload ["block"] (sp_is_payload K A) := ok_is_payload T
  refine T.F_payload_of.ok sc_payload_of (fun vs H Q E h => ?_) (fun cdv A' outer s H vs Q E hRm h => ?_)
  · rcases h with h | h | h
    · obtain ⟨rfl, _⟩ := h
      rfl
    · obtain ⟨a, k, q, r, b, rfl, _⟩ := h
      rfl
    · obtain ⟨a, k, q, r, b, rfl, _⟩ := h
      rfl
  · rcases h with h | h | h
    · obtain ⟨rfl, kq⟩ := h
      have hUn := hu_of hRm
      have s0 : Hs [] H [] H := Hs.start H
      refine ⟨_, (pss_cons (ps_if (pt_val (pe_call G_is_payload (hRm.mono (by decide)) (by rfl) T.g_is_payload T.F_is_payload.kp T.b_is_payload .nil pass0 (pa_cons (pv 0) pa_nil)) (fun _ => rfl)) (pss_cons ps_never pss_nil) pss_nil) (pss_cons (ps_ret pe_non) pss_nil)), ?_⟩
      refine c_sig [some (V.non)] rfl ?_
      refine c_ifS ?_
      refine c_tB ?_
      refine c_callx ?_
      refine c_cons ?_
      refine (vv 0 rfl) _ ?_
      refine c_nil ?_
      refine .inl ⟨rfl, fun H3 r4 => ?_⟩
      have s5 : Hs [] H [] _ := s0.call0 r4
      refine ⟨_, rfl, ?_⟩
      refine c_iteB (fun h2 => ?_) (fun h2 => ?_)
      · -- yes
        exfalso; walk_at "dead"
      · -- no
        refine s_nxs ?_
        refine s_ret vc ?_
        have s6 : Hs [] H [] _ := (s5.pick [] (by decide) (by walk_at "finL"))
        exact fin (kq  _ s6 ) (by first | rfl | simp)
    · obtain ⟨a, k, q, r, b, rfl, hT, hk, kq⟩ := h
      have hUn := hu_of hRm
      have s0 : Hs [] H [] H := Hs.start H
      refine ⟨_, (pss_cons (ps_if (pt_val (pe_call G_is_payload (hRm.mono (by decide)) (by rfl) T.g_is_payload T.F_is_payload.kp T.b_is_payload .nil pass0 (pa_cons (pv 0) pa_nil)) (fun _ => rfl)) (pss_cons (ps_ret (pe_tup (pa_cons (pe_ix ix_tup (pv 0) pe_int (fun _ _ => rfl)) (pa_cons (pe_ix ix_tup (pv 0) pe_int (fun _ _ => rfl)) pa_nil)))) pss_nil) pss_nil) (pss_cons (ps_ret pe_non) pss_nil)), ?_⟩
      refine c_sig [some (V.ref a)] rfl ?_
      refine c_ifS ?_
      refine c_tB ?_
      refine c_callx ?_
      refine c_cons ?_
      refine (vv 0 rfl) _ ?_
      refine c_nil ?_
      refine .inr ⟨a, k, q, r, b, rfl, (s0.sqt hT), fun H9 r10 => ?_⟩
      have s11 : Hs [] H [] _ := s0.call0 r10
      refine ⟨_, rfl, ?_⟩
      refine c_iteB (fun h8 => ?_) (fun h8 => ?_)
      · -- yes
        refine c_ret ?_
        refine c_tup ?_
        refine c_cons ?_
        refine (vixT (vv 0 rfl) vc (xs := _) (s11.sqt hT) (by rfl)) _ ?_
        refine c_cons ?_
        refine (vixT (vv 0 rfl) vc (xs := _) (s11.sqt hT) (by rfl)) _ ?_
        refine c_nil ?_
        refine ⟨sz1 (by show 2 ≤ 1000000; decide), fun p12 np12 => ?_⟩
        have s13 : Hs [] H [(p12, .tup ([V.int k, b]))] _ := s11.new np12 (.tup ([V.int k, b]))
        have s14 : Hs [] H [(p12, .tup ([V.int k, b]))] _ := (s13.pick [0] (by decide) (by walk_at "finL"))
        exact fin (kq p12 _ s14 ) (by first | rfl | simp)
      · -- no
        refine s_nxs ?_
        refine s_ret vc ?_
        exfalso; walk_at "dead"
    · obtain ⟨a, k, q, r, b, rfl, hT, hk, kq⟩ := h
      have hUn := hu_of hRm
      have s0 : Hs [] H [] H := Hs.start H
      refine ⟨_, (pss_cons (ps_if (pt_val (pe_call G_is_payload (hRm.mono (by decide)) (by rfl) T.g_is_payload T.F_is_payload.kp T.b_is_payload .nil pass0 (pa_cons (pv 0) pa_nil)) (fun _ => rfl)) (pss_cons (ps_ret (pe_tup (pa_cons (pe_ix ix_tup (pv 0) pe_int (fun _ _ => rfl)) (pa_cons (pe_ix ix_tup (pv 0) pe_int (fun _ _ => rfl)) pa_nil)))) pss_nil) pss_nil) (pss_cons (ps_ret pe_non) pss_nil)), ?_⟩
      refine c_sig [some (V.ref a)] rfl ?_
      refine c_ifS ?_
      refine c_tB ?_
      refine c_callx ?_
      refine c_cons ?_
      refine (vv 0 rfl) _ ?_
      refine c_nil ?_
      refine .inr ⟨a, k, q, r, b, rfl, (s0.sqt hT), fun H17 r18 => ?_⟩
      have s19 : Hs [] H [] _ := s0.call0 r18
      refine ⟨_, rfl, ?_⟩
      refine c_iteB (fun h16 => ?_) (fun h16 => ?_)
      · -- yes
        refine c_ret ?_
        refine c_tup ?_
        refine c_cons ?_
        refine (vixT (vv 0 rfl) vc (xs := _) (s19.sqt hT) (by rfl)) _ ?_
        refine c_cons ?_
        refine (vixT (vv 0 rfl) vc (xs := _) (s19.sqt hT) (by rfl)) _ ?_
        refine c_nil ?_
        refine ⟨sz1 (by show 2 ≤ 1000000; decide), fun p20 np20 => ?_⟩
        have s21 : Hs [] H [(p20, .tup ([V.int k, b]))] _ := s19.new np20 (.tup ([V.int k, b]))
        exfalso; walk_at "dead"
      · -- no
        refine s_nxs ?_
        refine s_ret vc ?_
        have s22 : Hs [] H [] _ := (s19.pick [] (by decide) (by walk_at "finL"))
        exact fin (kq  _ s22 ) (by first | rfl | simp)
def sp_stamped (K : PySem.W.Frag) (A : Ads) : Sp := fun vs H Q _ => ∃ (a : Addr) (k q r : Int) (b : V), vs = [V.ref a, V.int q, V.int r] ∧ (SqT K H a [V.int k, b]) ∧ ∀ (p : Addr) (H' : Hp), Hs [] H [(p, .tup ([V.int k, V.int q, V.int r, b]))] H' → Q (V.ref p) H'
theorem ok_stamped (T : Txt K mg A) : FnOk P w K mg base CX0 1 A.a_stamped A.d_stamped ["payload", "sequence", "rank"] (sp_stamped K A) := by
  refine T.F_stamped.ok sc_stamped (fun vs H Q E h => ?_) (fun cdv A' outer s H vs Q E hRm h => ?_)
  · obtain ⟨a, k, q, r, b, rfl, _⟩ := h
    rfl
  · obtain ⟨a, k, q, r, b, rfl, hT, kq⟩ := h
    have hUn := hu_of hRm
    have s0 : Hs [] H [] H := Hs.start H
    refine ⟨_, (pss_cons (ps_ret (pe_tup (pa_cons (pe_ix ix_tup (pv 0) pe_int (fun _ _ => rfl)) (pa_cons (pv 1) (pa_cons (pv 2) (pa_cons (pe_ix ix_tup (pv 0) pe_int (fun _ _ => rfl)) pa_nil)))))) pss_nil), ?_⟩
    refine c_sig [some (V.ref a), some (V.int q), some (V.int r)] rfl ?_
    refine c_ret ?_
    refine c_tup ?_
    refine c_cons ?_
    refine (vixT (vv 0 rfl) vc (xs := _) (s0.sqt hT) (by rfl)) _ ?_
    refine c_cons ?_
    refine (vv 1 rfl) _ ?_
    refine c_cons ?_
    refine (vv 2 rfl) _ ?_
    refine c_cons ?_
    refine (vixT (vv 0 rfl) vc (xs := _) (s0.sqt hT) (by rfl)) _ ?_
    refine c_nil ?_
    refine ⟨sz1 (by show 4 ≤ 1000000; decide), fun p1 np1 => ?_⟩
    have s2 : Hs [] H [(p1, .tup ([V.int k, V.int q, V.int r, b]))] _ := s0.new np1 (.tup ([V.int k, V.int q, V.int r, b]))
    have s3 : Hs [] H [(p1, .tup ([V.int k, V.int q, V.int r, b]))] _ := (s2.pick [0] (by decide) (by walk_at "finL"))
    exact fin (kq p1 _ s3 ) (by rfl)
def sp__law_row (K : PySem.W.Frag) (A : Ads) : Sp := fun vs H Q _ => ∃ (a : Addr) (ns : List Int) (k : Int), vs = [V.ref a, V.int k] ∧ (SqL K H a (ns.map V.int)) ∧ (0 ≤ k) ∧ Q (V.int (rowF ns k)) H
theorem ok__law_row (T : Txt K mg A) : FnOk P w K mg base CX0 1 A.a__law_row A.d__law_row ["_law_script", "_law_k"] (sp__law_row K A) := by
  refine T.F__law_row.ok sc__law_row (fun vs H Q E h => ?_) (fun cdv A' outer s H vs Q E hRm h => ?_)
  · obtain ⟨a, ns, k, rfl, _⟩ := h
    rfl
  · obtain ⟨a, ns, k, rfl, hS, h0, kq⟩ := h
    have hUn := hu_of hRm
    have s0 : Hs [] H [] H := Hs.start H
    refine ⟨_, (pss_cons (ps_set (i := 2) sc__law_row.nd rfl (.inl rfl) pe_int) (pss_cons (ps_if (pt_cmpR op_gt (pe_callB call_len_seq (by rfl) T.z_len PySem.boot_len (pa_cons (pv 0) pa_nil)) pe_int (nomark _)) (pss_cons (ps_set (i := 2) sc__law_row.nd rfl (.inl rfl) (pe_ix ix_list (pv 0) (pe_op op_mod (pe_callTy call_int1 (by rfl) T.z_int (by decide +kernel) (pa_cons (pv 1) pa_nil)) (pe_callB call_len_seq (by rfl) T.z_len PySem.boot_len (pa_cons (pv 0) pa_nil))) (fun _ _ => rfl))) pss_nil) pss_nil) (pss_cons (ps_if (pt_cmpR op_lt (pv 2) pe_int (nomark _)) (pss_cons (ps_set (i := 2) sc__law_row.nd rfl (.inl rfl) (pe_op op_sub pe_int (pe_op op_mul pe_int (pv 2)))) pss_nil) pss_nil) (pss_cons (ps_if (pw_and (pt_cmpR op_ge (pv 2) (pe_op op_pow pe_int pe_int) (nomark _)) (pw_and1 (pt_cmpR op_lt (pv 1) (pe_callB call_len_seq (by rfl) T.z_len PySem.boot_len (pa_cons (pv 0) pa_nil)) (nomark _)))).pt (pss_cons (ps_ret (pv 2)) pss_nil) pss_nil) (pss_cons (ps_set (i := 3) sc__law_row.nd rfl (.inl rfl) (pe_op op_mod (pe_callTy call_int1 (by rfl) T.z_int (by decide +kernel) (pa_cons (pe_op op_add (pe_op op_add (pe_op op_mul (pv 2) pe_int) (pe_op op_mul (pe_op op_add (pv 1) pe_int) pe_int)) (pe_callB call_len_seq (by rfl) T.z_len PySem.boot_len (pa_cons (pv 0) pa_nil))) pa_nil)) pe_int)) (pss_cons (ps_set (i := 4) sc__law_row.nd rfl (.inl rfl) (pe_op op_mod (pe_callTy call_int1 (by rfl) T.z_int (by decide +kernel) (pa_cons (pe_op op_add (pe_op op_add (pe_op op_mul (pv 3) (pv 3)) (pe_op op_mul (pv 2) pe_int)) (pv 1)) pa_nil)) pe_int)) (pss_cons (ps_ret (pe_op op_add (pe_op op_mul (pv 4) pe_int) (pe_op op_mod (pe_callTy call_int1 (by rfl) T.z_int (by decide +kernel) (pa_cons (pe_op op_mul (pv 3) pe_int) pa_nil)) pe_int))) pss_nil))))))), ?_⟩
    refine c_sig [some (V.ref a), some (V.int k), none, none, none] rfl ?_
    refine s_set [some (V.ref a), some (V.int k), some (V.int 0), none, none] vc rfl ?_
    obtain ⟨n2, en2⟩ : ∃ n : Int, n = (if (ns.length : Int) > 0 then gi ns (k % (ns.length : Int)) else 0) := ⟨_, rfl⟩
    refine s_ifset [some (V.ref a), some (V.int k), some (V.int n2), none, none] (.int n2) (vtest (v0 (g := fun i j => .bl (decide (j < i))) (vis (vlenL (vv 0 rfl) (xs := ns.map V.int) (s0.sq hS)) (congrArg (fun n : Nat => V.int (n : Int)) (List.length_map ..))) vc)) (fun h1 => vis (vixL (vv 0 rfl) (v1 (C := fun _ j => 0 < j) (g := fun i j => .int (i % j)) (by walk_at "side") (vint (vv 1 rfl)) (vis (vlenL (vv 0 rfl) (xs := ns.map V.int) (s0.sq hS)) (congrArg (fun n : Nat => V.int (n : Int)) (List.length_map ..)))) (xs := (ns.map V.int)) (s0.sq hS) (at_gi (by walk_at "side") (by walk_at "side"))) (congrArg V.int (by rw [en2, if_pos h1]))) rfl (fun h1 => by rw [en2, if_neg h1]) ?_
    obtain ⟨n4, en4⟩ : ∃ n : Int, n = (if n2 < 0 then 1 - (2 * n2) else n2) := ⟨_, rfl⟩
    refine s_ifset [some (V.ref a), some (V.int k), some (V.int n4), none, none] (.int n4) (vtest (v0 (g := fun i j => .bl (decide (i < j))) (vv 2 rfl) vc)) (fun h3 => vis (v0 (g := fun i j => .int (i - j)) vc (v1 (C := CMul) (g := fun i j => .int (i * j)) (.inl (by walk_at "cmul")) vc (vv 2 rfl))) (congrArg V.int (by rw [en4, if_pos h3]))) rfl (fun h3 => by rw [en4, if_neg h3]) ?_
    refine s_if (p := (n4 ≥ 1000000000) ∧ (k < (ns.length : Int))) (aand (vtest (v0 (g := fun i j => .bl (decide (j ≤ i))) (vv 2 rfl) (vis (v1 (C := CPow) (g := fun i j => .int (i ^ j.toNat)) ⟨by decide, by decide, by decide⟩ vc vc) (w := .int 1000000000) (by rfl)))) (fun hc => (vtest (v0 (g := fun i j => .bl (decide (i < j))) (vv 1 rfl) (vis (vlenL (vv 0 rfl) (xs := ns.map V.int) (s0.sq hS)) (congrArg (fun n : Nat => V.int (n : Int)) (List.length_map ..))))))) (fun h5 => ?_) (fun h5 => ?_)
    · -- then line 22
      refine s_ret (vv 2 rfl) ?_
      exact fin kq (by (subst_vars; first | exact congrArg V.int (if_pos (by assumption)).symm | exact congrArg V.int (if_neg (by assumption)).symm))
    · -- else line 22
      refine s_nxs ?_
      obtain ⟨n6, en6⟩ : ∃ n : Int, n = ((((n4 * 48271) + ((k + 1) * 69621)) + (ns.length : Int)) % 2147483647) := ⟨_, rfl⟩
      have en60 : 0 ≤ n6 := by rw [en6]; exact Int.emod_nonneg _ (by walk_at "side")
      have en61 : n6 < 2147483647 := by rw [en6]; exact Int.emod_lt_of_pos _ (by walk_at "side")
      refine s_set [some (V.ref a), some (V.int k), some (V.int n4), some (V.int n6), none] (vis (v1 (C := fun _ j => 0 < j) (g := fun i j => .int (i % j)) (by walk_at "side") (vint (v0 (g := fun i j => .int (i + j)) (v0 (g := fun i j => .int (i + j)) (v1 (C := CMul) (g := fun i j => .int (i * j)) (.inr (by walk_at "cmul")) (vv 2 rfl) vc) (v1 (C := CMul) (g := fun i j => .int (i * j)) (.inr (by walk_at "cmul")) (v0 (g := fun i j => .int (i + j)) (vv 1 rfl) vc) vc)) (vis (vlenL (vv 0 rfl) (xs := ns.map V.int) (s0.sq hS)) (congrArg (fun n : Nat => V.int (n : Int)) (List.length_map ..))))) vc) (congrArg V.int en6.symm)) rfl ?_
      obtain ⟨n7, en7⟩ : ∃ n : Int, n = ((((n6 * n6) + (n4 * 16807)) + k) % 2147483629) := ⟨_, rfl⟩
      have en70 : 0 ≤ n7 := by rw [en7]; exact Int.emod_nonneg _ (by walk_at "side")
      have en71 : n7 < 2147483629 := by rw [en7]; exact Int.emod_lt_of_pos _ (by walk_at "side")
      refine s_set [some (V.ref a), some (V.int k), some (V.int n4), some (V.int n6), some (V.int n7)] (vis (v1 (C := fun _ j => 0 < j) (g := fun i j => .int (i % j)) (by walk_at "side") (vint (v0 (g := fun i j => .int (i + j)) (v0 (g := fun i j => .int (i + j)) (v1 (C := CMul) (g := fun i j => .int (i * j)) (by walk_at "cmul2") (vv 3 rfl) (vv 3 rfl)) (v1 (C := CMul) (g := fun i j => .int (i * j)) (.inr (by walk_at "cmul")) (vv 2 rfl) vc)) (vv 1 rfl))) vc) (congrArg V.int en7.symm)) rfl ?_
      refine s_ret (v0 (g := fun i j => .int (i + j)) (v1 (C := CMul) (g := fun i j => .int (i * j)) (.inr (by walk_at "cmul")) (vv 4 rfl) vc) (v1 (C := fun _ j => 0 < j) (g := fun i j => .int (i % j)) (by walk_at "side") (vint (v1 (C := CMul) (g := fun i j => .int (i * j)) (.inr (by walk_at "cmul")) (vv 3 rfl) vc)) vc)) ?_
      exact fin kq (by (subst_vars; first | exact congrArg V.int (if_pos (by assumption)).symm | exact congrArg V.int (if_neg (by assumption)).symm))
def sp__law_bodies (K : PySem.W.Frag) (A : Ads) : Sp := fun vs H Q _ => ∃ (r : Int), vs = [V.int r] ∧ (0 ≤ r) ∧ ∀ (p t1 t2 t3 t4 t5 a b : Addr) (x : Int) (ja jb j2 j3 j4 j5 : List Int) (H' : Hp), Hs [] H [(p, .lst ([V.ref t1, V.ref t2, V.ref t3, V.ref t4, V.ref t5])), (t1, .tup ([V.ref a, V.ref b, V.int x])), (a, .tup (ja.map V.int)), (b, .tup (jb.map V.int)), (t2, .tup (j2.map V.int)), (t3, .tup (j3.map V.int)), (t4, .tup (j4.map V.int)), (t5, .tup (j5.map V.int))] H' → Q (V.ref p) H'
theorem ok__law_bodies (T : Txt K mg A) : FnOk P w K mg base CX0 1 A.a__law_bodies A.d__law_bodies ["_law_row_here"] (sp__law_bodies K A) := by
  refine T.F__law_bodies.ok sc__law_bodies (fun vs H Q E h => ?_) (fun cdv A' outer s H vs Q E hRm h => ?_)
  · obtain ⟨r, rfl, _⟩ := h
    rfl
  · obtain ⟨r, rfl, h0, kq⟩ := h
    have hUn := hu_of hRm
    have s0 : Hs [] H [] H := Hs.start H
    refine ⟨_, (pss_cons (ps_set (i := 1) sc__law_bodies.nd rfl (.inl rfl) (pe_op op_mod (pe_callTy call_int1 (by rfl) T.z_int (by decide +kernel) (pa_cons (pv 0) pa_nil)) pe_int)) (pss_cons (ps_setLc (i := 2) (own := [("_law_k", 4)]) (g := gName 4) (tt := tYes) rfl sc__law_bodies.nd rfl rfl (sw_true rfl rfl rfl (by decide +kernel)) (pi_range1 rfl T.z_range (pa_cons (pv 1) pa_nil)) (blkOk_by (N := ["_law_row_here", "_law_size", "_law_ids", "_law_bodies_here", "_law_k"]) (sc := defScope st__law_bodies) (by decide +kernel)) (fun _ _ _ _ _ => pg_name (i := 4) sc__law_bodies.nd rfl (Or.inl rfl)) (fun _ _ _ _ _ => pts_nil) (fun _ _ _ _ _ => (pe_op op_add pe_int (pe_op op_mod (pe_callTy call_int1 (by rfl) T.z_int (by decide +kernel) (pa_cons (pe_op op_add (pe_op op_fdiv (pv 0) pe_int) (pe_op op_mul pe_int (pv 4))) pa_nil)) pe_int)))) (pss_cons (ps_set (i := 3) sc__law_bodies.nd rfl (.inl rfl) (pe_lst (pa_cons (pe_tup (pa_cons (pe_callTy call_tuple_of (by rfl) T.z_tuple (by decide +kernel) (pa_cons (pv 2) pa_nil)) (pa_cons (pe_callTy call_tuple_of (by rfl) T.z_tuple (by decide +kernel) (pa_cons (pe_callB cr_sortedI (by rfl) T.z_sorted (by decide +kernel) (pa_cons (pv 2) pa_nil)) pa_nil)) (pa_cons (pe_op op_mod (pe_callTy call_int1 (by rfl) T.z_int (by decide +kernel) (pa_cons (pe_op op_fdiv (pv 0) pe_int) pa_nil)) pe_int) pa_nil)))) pa_nil))) (pss_cons (ps_expr (pe_bm PySem.F.plainAttrs_list PySem.F.slot_list_append PySem.F.type_list_append mt_append (pv 3) (pa_cons (pe_callTy call_tuple_of (by rfl) T.z_tuple (by decide +kernel) (pa_cons (pe_lc (own := [("_law_k", 4)]) (g := gName 4) (tt := tYes) rfl sc__law_bodies.nd (pi_range1 rfl T.z_range (pa_cons (pv 1) pa_nil)) (blkOk_by (N := ["_law_row_here", "_law_size", "_law_ids", "_law_bodies_here", "_law_k"]) (sc := defScope st__law_bodies) (by decide +kernel)) (fun _ _ _ _ _ => pg_name (i := 4) sc__law_bodies.nd rfl (Or.inl rfl)) (fun _ _ _ _ _ => pts_nil) (fun _ _ _ _ _ => (pe_op op_add pe_int (pe_op op_mod (pe_callTy call_int1 (by rfl) T.z_int (by decide +kernel) (pa_cons (pe_op op_add (pe_op op_fdiv (pv 0) pe_int) (pe_op op_mul pe_int (pv 4))) pa_nil)) pe_int)))) pa_nil)) pa_nil))) (pss_cons (ps_expr (pe_bm PySem.F.plainAttrs_list PySem.F.slot_list_append PySem.F.type_list_append mt_append (pv 3) (pa_cons (pe_callTy call_tuple_of (by rfl) T.z_tuple (by decide +kernel) (pa_cons (pe_lc (own := [("_law_k", 4)]) (g := gName 4) (tt := tYes) rfl sc__law_bodies.nd (pi_range1 rfl T.z_range (pa_cons pe_int pa_nil)) (blkOk_by (N := ["_law_row_here", "_law_size", "_law_ids", "_law_bodies_here", "_law_k"]) (sc := defScope st__law_bodies) (by decide +kernel)) (fun _ _ _ _ _ => pg_name (i := 4) sc__law_bodies.nd rfl (Or.inl rfl)) (fun _ _ _ _ _ => pts_nil) (fun _ _ _ _ _ => (pe_op op_mod (pe_callTy call_int1 (by rfl) T.z_int (by decide +kernel) (pa_cons (pe_op op_fdiv (pv 0) (pe_op op_add (pv 4) pe_int)) pa_nil)) pe_int))) pa_nil)) pa_nil))) (pss_cons (ps_expr (pe_bm PySem.F.plainAttrs_list PySem.F.slot_list_append PySem.F.type_list_append mt_append (pv 3) (pa_cons (pe_callTy call_tuple_of (by rfl) T.z_tuple (by decide +kernel) (pa_cons (pe_lc (own := [("_law_k", 4)]) (g := gName 4) (tt := tYes) rfl sc__law_bodies.nd (pi_range1 rfl T.z_range (pa_cons pe_int pa_nil)) (blkOk_by (N := ["_law_row_here", "_law_size", "_law_ids", "_law_bodies_here", "_law_k"]) (sc := defScope st__law_bodies) (by decide +kernel)) (fun _ _ _ _ _ => pg_name (i := 4) sc__law_bodies.nd rfl (Or.inl rfl)) (fun _ _ _ _ _ => pts_nil) (fun _ _ _ _ _ => (pe_op op_mod (pe_callTy call_int1 (by rfl) T.z_int (by decide +kernel) (pa_cons (pe_op op_fdiv (pv 0) (pe_op op_add (pv 4) pe_int)) pa_nil)) pe_int))) pa_nil)) pa_nil))) (pss_cons (ps_expr (pe_bm PySem.F.plainAttrs_list PySem.F.slot_list_append PySem.F.type_list_append mt_append (pv 3) (pa_cons (pe_callTy call_tuple_of (by rfl) T.z_tuple (by decide +kernel) (pa_cons (pe_lc (own := [("_law_k", 4)]) (g := gName 4) (tt := tYes) rfl sc__law_bodies.nd (pi_range1 rfl T.z_range (pa_cons pe_int pa_nil)) (blkOk_by (N := ["_law_row_here", "_law_size", "_law_ids", "_law_bodies_here", "_law_k"]) (sc := defScope st__law_bodies) (by decide +kernel)) (fun _ _ _ _ _ => pg_name (i := 4) sc__law_bodies.nd rfl (Or.inl rfl)) (fun _ _ _ _ _ => pts_nil) (fun _ _ _ _ _ => (pe_op op_mod (pe_callTy call_int1 (by rfl) T.z_int (by decide +kernel) (pa_cons (pe_op op_fdiv (pv 0) (pe_op op_add (pv 4) pe_int)) pa_nil)) pe_int))) pa_nil)) pa_nil))) (pss_cons (ps_ret (pv 3)) pss_nil)))))))), ?_⟩
    refine c_sig [some (V.int r), none, none, none, none] rfl ?_
    obtain ⟨n1, en1⟩ : ∃ n : Int, n = (r % 10) := ⟨_, rfl⟩
    have en10 : 0 ≤ n1 := by rw [en1]; exact Int.emod_nonneg _ (by walk_at "side")
    have en11 : n1 < 10 := by rw [en1]; exact Int.emod_lt_of_pos _ (by walk_at "side")
    refine s_set [some (V.int r), some (V.int n1), none, none, none] (vis (v1 (C := fun _ j => 0 < j) (g := fun i j => .int (i % j)) (by walk_at "side") (vint (vv 0 rfl)) vc) (congrArg V.int en1.symm)) rfl ?_
    refine c_set ?_
    refine c_lcR (n := n1) (fun (i2 : Nat) => 1 + (((r / 10) + (7 * (i2 : Int))) % 45)) s0 (va (vv 1 rfl) va0) ⟨by walk_at "side", by walk_at "side"⟩ (fun _ => rfl) (fun i2 H5 h4 s3 => (v0 (g := fun i j => .int (i + j)) vc (v1 (C := fun _ j => 0 < j) (g := fun i j => .int (i % j)) (by walk_at "side") (vint (v0 (g := fun i j => .int (i + j)) (v1 (C := CDiv) (g := fun i j => .int (i / j)) ⟨by walk_at "side", by walk_at "side"⟩ (vv 0 rfl) vc) (v1 (C := CMul) (g := fun i j => .int (i * j)) (.inl (by walk_at "cmul")) vc (vv 4 rfl)))) vc))) (fun p6 H8 s7 => ?_)
    refine k_set [some (V.int r), some (V.int n1), some (V.ref p6), none, none] rfl ?_
    refine c_set ?_
    refine c_lst ?_
    refine c_cons ?_
    refine c_tup ?_
    refine c_cons ?_
    refine c_cb ?_
    refine c_cons ?_
    refine (vv 2 rfl) _ ?_
    refine c_nil ?_
    refine ⟨_, _, rfl, .inl ⟨(s7.l 0 rfl), fun p9 np9 => ?_⟩⟩
    have s10 : Hs [] H [(p9, .tup (((List.range n1.toNat).map (fun (i2 : Nat) => 1 + (((r / 10) + (7 * (i2 : Int))) % 45))).map V.int)), (p6, .lst (((List.range n1.toNat).map (fun (i2 : Nat) => 1 + (((r / 10) + (7 * (i2 : Int))) % 45))).map V.int))] _ := s7.new np9 (.tup (((List.range n1.toNat).map (fun (i2 : Nat) => 1 + (((r / 10) + (7 * (i2 : Int))) % 45))).map V.int))
    refine c_cons ?_
    refine c_cb ?_
    refine c_cons ?_
    refine c_cb ?_
    refine c_cons ?_
    refine (vv 2 rfl) _ ?_
    refine c_nil ?_
    refine ⟨_, ((List.range n1.toNat).map (fun (i2 : Nat) => 1 + (((r / 10) + (7 * (i2 : Int))) % 45))), rfl, (s10.l 1 rfl), fun m12 p11 hm12p hm12o np11 => ?_⟩
    have s13 : Hs [] H [(p11, .lst (m12.map V.int)), (p9, .tup (((List.range n1.toNat).map (fun (i2 : Nat) => 1 + (((r / 10) + (7 * (i2 : Int))) % 45))).map V.int)), (p6, .lst (((List.range n1.toNat).map (fun (i2 : Nat) => 1 + (((r / 10) + (7 * (i2 : Int))) % 45))).map V.int))] _ := s10.new np11 (.lst (m12.map V.int))
    refine c_nil ?_
    refine ⟨_, _, rfl, .inl ⟨(s13.l 0 rfl), fun p14 np14 => ?_⟩⟩
    have s15 : Hs [] H [(p14, .tup (m12.map V.int)), (p11, .lst (m12.map V.int)), (p9, .tup (((List.range n1.toNat).map (fun (i2 : Nat) => 1 + (((r / 10) + (7 * (i2 : Int))) % 45))).map V.int)), (p6, .lst (((List.range n1.toNat).map (fun (i2 : Nat) => 1 + (((r / 10) + (7 * (i2 : Int))) % 45))).map V.int))] _ := s13.new np14 (.tup (m12.map V.int))
    refine c_cons ?_
    obtain ⟨n16, en16⟩ : ∃ n : Int, n = ((r / 3) % 7) := ⟨_, rfl⟩
    have en160 : 0 ≤ n16 := by rw [en16]; exact Int.emod_nonneg _ (by walk_at "side")
    have en161 : n16 < 7 := by rw [en16]; exact Int.emod_lt_of_pos _ (by walk_at "side")
    refine (vis (v1 (C := fun _ j => 0 < j) (g := fun i j => .int (i % j)) (by walk_at "side") (vint (v1 (C := CDiv) (g := fun i j => .int (i / j)) ⟨by walk_at "side", by walk_at "side"⟩ (vv 0 rfl) vc)) vc) (congrArg V.int en16.symm)) _ ?_
    refine c_nil ?_
    refine ⟨sz1 (by show 3 ≤ 1000000; decide), fun p17 np17 => ?_⟩
    have s18 : Hs [] H [(p17, .tup ([V.ref p9, V.ref p14, V.int n16])), (p14, .tup (m12.map V.int)), (p11, .lst (m12.map V.int)), (p9, .tup (((List.range n1.toNat).map (fun (i2 : Nat) => 1 + (((r / 10) + (7 * (i2 : Int))) % 45))).map V.int)), (p6, .lst (((List.range n1.toNat).map (fun (i2 : Nat) => 1 + (((r / 10) + (7 * (i2 : Int))) % 45))).map V.int))] _ := s15.new np17 (.tup ([V.ref p9, V.ref p14, V.int n16]))
    refine c_nil ?_
    refine ⟨sz1 (by show 1 ≤ 1000000; decide), fun p19 np19 => ?_⟩
    have s20 : Hs [] H [(p19, .lst ([V.ref p17])), (p17, .tup ([V.ref p9, V.ref p14, V.int n16])), (p14, .tup (m12.map V.int)), (p11, .lst (m12.map V.int)), (p9, .tup (((List.range n1.toNat).map (fun (i2 : Nat) => 1 + (((r / 10) + (7 * (i2 : Int))) % 45))).map V.int)), (p6, .lst (((List.range n1.toNat).map (fun (i2 : Nat) => 1 + (((r / 10) + (7 * (i2 : Int))) % 45))).map V.int))] _ := s18.new np19 (.lst ([V.ref p17]))
    refine k_set [some (V.int r), some (V.int n1), some (V.ref p6), some (V.ref p19), none] rfl ?_
    refine c_drop ?_
    refine (vv 3 rfl) _ ⟨ty_l (s20.l 0 rfl), ?_⟩
    refine c_cons ?_
    refine c_cb ?_
    refine c_cons ?_
    refine c_lcR (n := n1) (fun (i21 : Nat) => 12 + (((r / 7) + (5 * (i21 : Int))) % 64)) s20 (va (vv 1 rfl) va0) ⟨by walk_at "side", by walk_at "side"⟩ (fun _ => rfl) (fun i21 H24 h23 s22 => (v0 (g := fun i j => .int (i + j)) vc (v1 (C := fun _ j => 0 < j) (g := fun i j => .int (i % j)) (by walk_at "side") (vint (v0 (g := fun i j => .int (i + j)) (v1 (C := CDiv) (g := fun i j => .int (i / j)) ⟨by walk_at "side", by walk_at "side"⟩ (vv 0 rfl) vc) (v1 (C := CMul) (g := fun i j => .int (i * j)) (.inl (by walk_at "cmul")) vc (vv 4 rfl)))) vc))) (fun p25 H27 s26 => ?_)
    refine c_nil ?_
    refine ⟨_, _, rfl, .inl ⟨(s26.l 0 rfl), fun p28 np28 => ?_⟩⟩
    have s29 : Hs [] H [(p28, .tup (((List.range n1.toNat).map (fun (i21 : Nat) => 12 + (((r / 7) + (5 * (i21 : Int))) % 64))).map V.int)), (p25, .lst (((List.range n1.toNat).map (fun (i21 : Nat) => 12 + (((r / 7) + (5 * (i21 : Int))) % 64))).map V.int)), (p19, .lst ([V.ref p17])), (p17, .tup ([V.ref p9, V.ref p14, V.int n16])), (p14, .tup (m12.map V.int)), (p11, .lst (m12.map V.int)), (p9, .tup (((List.range n1.toNat).map (fun (i2 : Nat) => 1 + (((r / 10) + (7 * (i2 : Int))) % 45))).map V.int)), (p6, .lst (((List.range n1.toNat).map (fun (i2 : Nat) => 1 + (((r / 10) + (7 * (i2 : Int))) % 45))).map V.int))] _ := s26.new np28 (.tup (((List.range n1.toNat).map (fun (i21 : Nat) => 12 + (((r / 7) + (5 * (i21 : Int))) % 64))).map V.int))
    refine c_nil ?_
    refine ⟨_, _, _, rfl, rfl, s29.mem 2 rfl, sz2 (by walk_at "side"), ?_⟩
    have s30 : Hs [] H [(p28, .tup (((List.range n1.toNat).map (fun (i21 : Nat) => 12 + (((r / 7) + (5 * (i21 : Int))) % 64))).map V.int)), (p25, .lst (((List.range n1.toNat).map (fun (i21 : Nat) => 12 + (((r / 7) + (5 * (i21 : Int))) % 64))).map V.int)), (p19, .lst ([V.ref p17, V.ref p28])), (p17, .tup ([V.ref p9, V.ref p14, V.int n16])), (p14, .tup (m12.map V.int)), (p11, .lst (m12.map V.int)), (p9, .tup (((List.range n1.toNat).map (fun (i2 : Nat) => 1 + (((r / 10) + (7 * (i2 : Int))) % 45))).map V.int)), (p6, .lst (((List.range n1.toNat).map (fun (i2 : Nat) => 1 + (((r / 10) + (7 * (i2 : Int))) % 45))).map V.int))] _ := s29.wr 2 (.lst ([V.ref p17, V.ref p28])) rfl
    refine k_drop ?_
    refine c_drop ?_
    refine (vv 3 rfl) _ ⟨ty_l (s30.l 2 rfl), ?_⟩
    refine c_cons ?_
    refine c_cb ?_
    refine c_cons ?_
    refine c_lcR (n := 64) (fun (i31 : Nat) => (r / ((i31 : Int) + 1)) % 256) s30 (va vc va0) ⟨by walk_at "side", by walk_at "side"⟩ (fun _ => rfl) (fun i31 H34 h33 s32 => (v1 (C := fun _ j => 0 < j) (g := fun i j => .int (i % j)) (by walk_at "side") (vint (v1 (C := CDiv) (g := fun i j => .int (i / j)) ⟨by walk_at "side", by walk_at "side"⟩ (vv 0 rfl) (v0 (g := fun i j => .int (i + j)) (vv 4 rfl) vc))) vc)) (fun p35 H37 s36 => ?_)
    refine c_nil ?_
    refine ⟨_, _, rfl, .inl ⟨(s36.l 0 rfl), fun p38 np38 => ?_⟩⟩
    have s39 : Hs [] H [(p38, .tup (((List.range (64 : Int).toNat).map (fun (i31 : Nat) => (r / ((i31 : Int) + 1)) % 256)).map V.int)), (p35, .lst (((List.range (64 : Int).toNat).map (fun (i31 : Nat) => (r / ((i31 : Int) + 1)) % 256)).map V.int)), (p28, .tup (((List.range n1.toNat).map (fun (i21 : Nat) => 12 + (((r / 7) + (5 * (i21 : Int))) % 64))).map V.int)), (p25, .lst (((List.range n1.toNat).map (fun (i21 : Nat) => 12 + (((r / 7) + (5 * (i21 : Int))) % 64))).map V.int)), (p19, .lst ([V.ref p17, V.ref p28])), (p17, .tup ([V.ref p9, V.ref p14, V.int n16])), (p14, .tup (m12.map V.int)), (p11, .lst (m12.map V.int)), (p9, .tup (((List.range n1.toNat).map (fun (i2 : Nat) => 1 + (((r / 10) + (7 * (i2 : Int))) % 45))).map V.int)), (p6, .lst (((List.range n1.toNat).map (fun (i2 : Nat) => 1 + (((r / 10) + (7 * (i2 : Int))) % 45))).map V.int))] _ := s36.new np38 (.tup (((List.range (64 : Int).toNat).map (fun (i31 : Nat) => (r / ((i31 : Int) + 1)) % 256)).map V.int))
    refine c_nil ?_
    refine ⟨_, _, _, rfl, rfl, s39.mem 4 rfl, sz2 (by walk_at "side"), ?_⟩
    have s40 : Hs [] H [(p38, .tup (((List.range (64 : Int).toNat).map (fun (i31 : Nat) => (r / ((i31 : Int) + 1)) % 256)).map V.int)), (p35, .lst (((List.range (64 : Int).toNat).map (fun (i31 : Nat) => (r / ((i31 : Int) + 1)) % 256)).map V.int)), (p28, .tup (((List.range n1.toNat).map (fun (i21 : Nat) => 12 + (((r / 7) + (5 * (i21 : Int))) % 64))).map V.int)), (p25, .lst (((List.range n1.toNat).map (fun (i21 : Nat) => 12 + (((r / 7) + (5 * (i21 : Int))) % 64))).map V.int)), (p19, .lst ([V.ref p17, V.ref p28, V.ref p38])), (p17, .tup ([V.ref p9, V.ref p14, V.int n16])), (p14, .tup (m12.map V.int)), (p11, .lst (m12.map V.int)), (p9, .tup (((List.range n1.toNat).map (fun (i2 : Nat) => 1 + (((r / 10) + (7 * (i2 : Int))) % 45))).map V.int)), (p6, .lst (((List.range n1.toNat).map (fun (i2 : Nat) => 1 + (((r / 10) + (7 * (i2 : Int))) % 45))).map V.int))] _ := s39.wr 4 (.lst ([V.ref p17, V.ref p28, V.ref p38])) rfl
    refine k_drop ?_
    refine c_drop ?_
    refine (vv 3 rfl) _ ⟨ty_l (s40.l 4 rfl), ?_⟩
    refine c_cons ?_
    refine c_cb ?_
    refine c_cons ?_
    refine c_lcR (n := 32) (fun (i41 : Nat) => (r / ((i41 : Int) + 3)) % 46) s40 (va vc va0) ⟨by walk_at "side", by walk_at "side"⟩ (fun _ => rfl) (fun i41 H44 h43 s42 => (v1 (C := fun _ j => 0 < j) (g := fun i j => .int (i % j)) (by walk_at "side") (vint (v1 (C := CDiv) (g := fun i j => .int (i / j)) ⟨by walk_at "side", by walk_at "side"⟩ (vv 0 rfl) (v0 (g := fun i j => .int (i + j)) (vv 4 rfl) vc))) vc)) (fun p45 H47 s46 => ?_)
    refine c_nil ?_
    refine ⟨_, _, rfl, .inl ⟨(s46.l 0 rfl), fun p48 np48 => ?_⟩⟩
    have s49 : Hs [] H [(p48, .tup (((List.range (32 : Int).toNat).map (fun (i41 : Nat) => (r / ((i41 : Int) + 3)) % 46)).map V.int)), (p45, .lst (((List.range (32 : Int).toNat).map (fun (i41 : Nat) => (r / ((i41 : Int) + 3)) % 46)).map V.int)), (p38, .tup (((List.range (64 : Int).toNat).map (fun (i31 : Nat) => (r / ((i31 : Int) + 1)) % 256)).map V.int)), (p35, .lst (((List.range (64 : Int).toNat).map (fun (i31 : Nat) => (r / ((i31 : Int) + 1)) % 256)).map V.int)), (p28, .tup (((List.range n1.toNat).map (fun (i21 : Nat) => 12 + (((r / 7) + (5 * (i21 : Int))) % 64))).map V.int)), (p25, .lst (((List.range n1.toNat).map (fun (i21 : Nat) => 12 + (((r / 7) + (5 * (i21 : Int))) % 64))).map V.int)), (p19, .lst ([V.ref p17, V.ref p28, V.ref p38])), (p17, .tup ([V.ref p9, V.ref p14, V.int n16])), (p14, .tup (m12.map V.int)), (p11, .lst (m12.map V.int)), (p9, .tup (((List.range n1.toNat).map (fun (i2 : Nat) => 1 + (((r / 10) + (7 * (i2 : Int))) % 45))).map V.int)), (p6, .lst (((List.range n1.toNat).map (fun (i2 : Nat) => 1 + (((r / 10) + (7 * (i2 : Int))) % 45))).map V.int))] _ := s46.new np48 (.tup (((List.range (32 : Int).toNat).map (fun (i41 : Nat) => (r / ((i41 : Int) + 3)) % 46)).map V.int))
    refine c_nil ?_
    refine ⟨_, _, _, rfl, rfl, s49.mem 6 rfl, sz2 (by walk_at "side"), ?_⟩
    have s50 : Hs [] H [(p48, .tup (((List.range (32 : Int).toNat).map (fun (i41 : Nat) => (r / ((i41 : Int) + 3)) % 46)).map V.int)), (p45, .lst (((List.range (32 : Int).toNat).map (fun (i41 : Nat) => (r / ((i41 : Int) + 3)) % 46)).map V.int)), (p38, .tup (((List.range (64 : Int).toNat).map (fun (i31 : Nat) => (r / ((i31 : Int) + 1)) % 256)).map V.int)), (p35, .lst (((List.range (64 : Int).toNat).map (fun (i31 : Nat) => (r / ((i31 : Int) + 1)) % 256)).map V.int)), (p28, .tup (((List.range n1.toNat).map (fun (i21 : Nat) => 12 + (((r / 7) + (5 * (i21 : Int))) % 64))).map V.int)), (p25, .lst (((List.range n1.toNat).map (fun (i21 : Nat) => 12 + (((r / 7) + (5 * (i21 : Int))) % 64))).map V.int)), (p19, .lst ([V.ref p17, V.ref p28, V.ref p38, V.ref p48])), (p17, .tup ([V.ref p9, V.ref p14, V.int n16])), (p14, .tup (m12.map V.int)), (p11, .lst (m12.map V.int)), (p9, .tup (((List.range n1.toNat).map (fun (i2 : Nat) => 1 + (((r / 10) + (7 * (i2 : Int))) % 45))).map V.int)), (p6, .lst (((List.range n1.toNat).map (fun (i2 : Nat) => 1 + (((r / 10) + (7 * (i2 : Int))) % 45))).map V.int))] _ := s49.wr 6 (.lst ([V.ref p17, V.ref p28, V.ref p38, V.ref p48])) rfl
    refine k_drop ?_
    refine c_drop ?_
    refine (vv 3 rfl) _ ⟨ty_l (s50.l 6 rfl), ?_⟩
    refine c_cons ?_
    refine c_cb ?_
    refine c_cons ?_
    refine c_lcR (n := 32) (fun (i51 : Nat) => (r / ((i51 : Int) + 2)) % 65536) s50 (va vc va0) ⟨by walk_at "side", by walk_at "side"⟩ (fun _ => rfl) (fun i51 H54 h53 s52 => (v1 (C := fun _ j => 0 < j) (g := fun i j => .int (i % j)) (by walk_at "side") (vint (v1 (C := CDiv) (g := fun i j => .int (i / j)) ⟨by walk_at "side", by walk_at "side"⟩ (vv 0 rfl) (v0 (g := fun i j => .int (i + j)) (vv 4 rfl) vc))) vc)) (fun p55 H57 s56 => ?_)
    refine c_nil ?_
    refine ⟨_, _, rfl, .inl ⟨(s56.l 0 rfl), fun p58 np58 => ?_⟩⟩
    have s59 : Hs [] H [(p58, .tup (((List.range (32 : Int).toNat).map (fun (i51 : Nat) => (r / ((i51 : Int) + 2)) % 65536)).map V.int)), (p55, .lst (((List.range (32 : Int).toNat).map (fun (i51 : Nat) => (r / ((i51 : Int) + 2)) % 65536)).map V.int)), (p48, .tup (((List.range (32 : Int).toNat).map (fun (i41 : Nat) => (r / ((i41 : Int) + 3)) % 46)).map V.int)), (p45, .lst (((List.range (32 : Int).toNat).map (fun (i41 : Nat) => (r / ((i41 : Int) + 3)) % 46)).map V.int)), (p38, .tup (((List.range (64 : Int).toNat).map (fun (i31 : Nat) => (r / ((i31 : Int) + 1)) % 256)).map V.int)), (p35, .lst (((List.range (64 : Int).toNat).map (fun (i31 : Nat) => (r / ((i31 : Int) + 1)) % 256)).map V.int)), (p28, .tup (((List.range n1.toNat).map (fun (i21 : Nat) => 12 + (((r / 7) + (5 * (i21 : Int))) % 64))).map V.int)), (p25, .lst (((List.range n1.toNat).map (fun (i21 : Nat) => 12 + (((r / 7) + (5 * (i21 : Int))) % 64))).map V.int)), (p19, .lst ([V.ref p17, V.ref p28, V.ref p38, V.ref p48])), (p17, .tup ([V.ref p9, V.ref p14, V.int n16])), (p14, .tup (m12.map V.int)), (p11, .lst (m12.map V.int)), (p9, .tup (((List.range n1.toNat).map (fun (i2 : Nat) => 1 + (((r / 10) + (7 * (i2 : Int))) % 45))).map V.int)), (p6, .lst (((List.range n1.toNat).map (fun (i2 : Nat) => 1 + (((r / 10) + (7 * (i2 : Int))) % 45))).map V.int))] _ := s56.new np58 (.tup (((List.range (32 : Int).toNat).map (fun (i51 : Nat) => (r / ((i51 : Int) + 2)) % 65536)).map V.int))
    refine c_nil ?_
    refine ⟨_, _, _, rfl, rfl, s59.mem 8 rfl, sz2 (by walk_at "side"), ?_⟩
    have s60 : Hs [] H [(p58, .tup (((List.range (32 : Int).toNat).map (fun (i51 : Nat) => (r / ((i51 : Int) + 2)) % 65536)).map V.int)), (p55, .lst (((List.range (32 : Int).toNat).map (fun (i51 : Nat) => (r / ((i51 : Int) + 2)) % 65536)).map V.int)), (p48, .tup (((List.range (32 : Int).toNat).map (fun (i41 : Nat) => (r / ((i41 : Int) + 3)) % 46)).map V.int)), (p45, .lst (((List.range (32 : Int).toNat).map (fun (i41 : Nat) => (r / ((i41 : Int) + 3)) % 46)).map V.int)), (p38, .tup (((List.range (64 : Int).toNat).map (fun (i31 : Nat) => (r / ((i31 : Int) + 1)) % 256)).map V.int)), (p35, .lst (((List.range (64 : Int).toNat).map (fun (i31 : Nat) => (r / ((i31 : Int) + 1)) % 256)).map V.int)), (p28, .tup (((List.range n1.toNat).map (fun (i21 : Nat) => 12 + (((r / 7) + (5 * (i21 : Int))) % 64))).map V.int)), (p25, .lst (((List.range n1.toNat).map (fun (i21 : Nat) => 12 + (((r / 7) + (5 * (i21 : Int))) % 64))).map V.int)), (p19, .lst ([V.ref p17, V.ref p28, V.ref p38, V.ref p48, V.ref p58])), (p17, .tup ([V.ref p9, V.ref p14, V.int n16])), (p14, .tup (m12.map V.int)), (p11, .lst (m12.map V.int)), (p9, .tup (((List.range n1.toNat).map (fun (i2 : Nat) => 1 + (((r / 10) + (7 * (i2 : Int))) % 45))).map V.int)), (p6, .lst (((List.range n1.toNat).map (fun (i2 : Nat) => 1 + (((r / 10) + (7 * (i2 : Int))) % 45))).map V.int))] _ := s59.wr 8 (.lst ([V.ref p17, V.ref p28, V.ref p38, V.ref p48, V.ref p58])) rfl
    refine k_drop ?_
    refine s_ret (vv 3 rfl) ?_
    have s61 : Hs [] H [(p19, .lst ([V.ref p17, V.ref p28, V.ref p38, V.ref p48, V.ref p58])), (p17, .tup ([V.ref p9, V.ref p14, V.int n16])), (p9, .tup (((List.range n1.toNat).map (fun (i2 : Nat) => 1 + (((r / 10) + (7 * (i2 : Int))) % 45))).map V.int)), (p14, .tup (m12.map V.int)), (p28, .tup (((List.range n1.toNat).map (fun (i21 : Nat) => 12 + (((r / 7) + (5 * (i21 : Int))) % 64))).map V.int)), (p38, .tup (((List.range (64 : Int).toNat).map (fun (i31 : Nat) => (r / ((i31 : Int) + 1)) % 256)).map V.int)), (p48, .tup (((List.range (32 : Int).toNat).map (fun (i41 : Nat) => (r / ((i41 : Int) + 3)) % 46)).map V.int)), (p58, .tup (((List.range (32 : Int).toNat).map (fun (i51 : Nat) => (r / ((i51 : Int) + 2)) % 65536)).map V.int))] _ := (s60.pick [8, 9, 12, 10, 6, 4, 2, 0] (by decide) (by walk_at "finL"))
    exact fin (kq p19 p17 p28 p38 p48 p58 p9 p14 n16 ((List.range n1.toNat).map (fun (i2 : Nat) => 1 + (((r / 10) + (7 * (i2 : Int))) % 45))) m12 ((List.range n1.toNat).map (fun (i21 : Nat) => 12 + (((r / 7) + (5 * (i21 : Int))) % 64))) ((List.range (64 : Int).toNat).map (fun (i31 : Nat) => (r / ((i31 : Int) + 1)) % 256)) ((List.range (32 : Int).toNat).map (fun (i41 : Nat) => (r / ((i41 : Int) + 3)) % 46)) ((List.range (32 : Int).toNat).map (fun (i51 : Nat) => (r / ((i51 : Int) + 2)) % 65536)) _ s61 ) (by rfl)
def sp_law0 (K : PySem.W.Frag) : Sp := fun vs H Q _ => ∃ (a : Addr) (ns : List Int), vs = [.ref a] ∧ SqL K H a (ns.map V.int) ∧ ns.length ≤ 63 ∧ ∀ H', Q (.bl true) H'
abbrev sp_law (K : PySem.W.Frag) (_ : Ads) : Sp := sp_law0 K
theorem ok_law (T : Txt K mg A) : FnOk P w K mg base CX0 3 A.a_law A.d_law ["_law_script"] (sp_law K A) := by
  have G__law_bodies : FnOk P w K mg base CX0 1 A.a__law_bodies A.d__law_bodies ["_law_row_here"] (sp__law_bodies K A) := ok__law_bodies T
  have G__law_row : FnOk P w K mg base CX0 1 A.a__law_row A.d__law_row ["_law_script", "_law_k"] (sp__law_row K A) := ok__law_row T
  have G_is_payload : FnOk P w K mg base CX0 1 A.a_is_payload A.d_is_payload ["block"] (sp_is_payload K A) := ok_is_payload T
  have G_payload_of : FnOk P w K mg base CX0 2 A.a_payload_of A.d_payload_of ["block"] (sp_payload_of K A) := ok_payload_of T
  have G_stamped : FnOk P w K mg base CX0 1 A.a_stamped A.d_stamped ["payload", "sequence", "rank"] (sp_stamped K A) := ok_stamped T
  refine T.F_law.ok sc_law (fun vs H Q E h => ?_) (fun cdv A' outer s H vs Q E hRm h => ?_)
  · obtain ⟨a, ns, rfl, _⟩ := h
    rfl
  · obtain ⟨a, ns, rfl, hS, hlen, kq⟩ := h
    have hUn := hu_of hRm
    have s0 : Hs [] H [] H := Hs.start H
    refine ⟨_, (pss_cons (ps_set (i := 1) sc_law.nd rfl (.inl rfl) (pe_call G__law_bodies (hRm.mono (by decide)) (by rfl) T.g__law_bodies T.F__law_bodies.kp T.b__law_bodies .nil pass0 (pa_cons (pe_call G__law_row (hRm.mono (by decide)) (by rfl) T.g__law_row T.F__law_row.kp T.b__law_row .nil pass0 (pa_cons (pv 0) (pa_cons pe_int pa_nil))) pa_nil))) (pss_cons (ps_set (i := 2) sc_law.nd rfl (.inl rfl) (pe_op op_mod (pe_callTy call_int1 (by rfl) T.z_int (by decide +kernel) (pa_cons (pe_call G__law_row (hRm.mono (by decide)) (by rfl) T.g__law_row T.F__law_row.kp T.b__law_row .nil pass0 (pa_cons (pv 0) (pa_cons pe_int pa_nil))) pa_nil)) (pe_op op_pow pe_int pe_int))) (pss_cons (ps_set (i := 3) sc_law.nd rfl (.inl rfl) (pe_op op_mod (pe_callTy call_int1 (by rfl) T.z_int (by decide +kernel) (pa_cons (pe_call G__law_row (hRm.mono (by decide)) (by rfl) T.g__law_row T.F__law_row.kp T.b__law_row .nil pass0 (pa_cons (pv 0) (pa_cons pe_int pa_nil))) pa_nil)) pe_int)) (pss_cons (ps_if (pw_or (pt_cmpR (op_neD hRm.units) (pe_lst (pa_cons (pe_glob (v := .int 1) (by rfl) T.k_COMMIT (by exact ⟨_, rfl⟩)) (pa_cons (pe_glob (v := .int 2) (by rfl) T.k_MOVE (by exact ⟨_, rfl⟩)) (pa_cons (pe_glob (v := .int 3) (by rfl) T.k_DATA (by exact ⟨_, rfl⟩)) (pa_cons (pe_glob (v := .int 4) (by rfl) T.k_NODE (by exact ⟨_, rfl⟩)) (pa_cons (pe_glob (v := .int 5) (by rfl) T.k_PART (by exact ⟨_, rfl⟩)) pa_nil)))))) (pe_lst (pa_cons pe_int (pa_cons pe_int (pa_cons pe_int (pa_cons pe_int (pa_cons pe_int pa_nil)))))) (nomark _)) (pw_or1 (pt_val (pe_callB call_isi (by rfl) T.z_isinstance (by decide +kernel) (pa_cons (pe_glob (v := .int 1) (by rfl) T.k_COMMIT (by exact ⟨_, rfl⟩)) (pa_cons (pe_bltn (v := .ty "bool") (u := .type "bool") (by rfl) T.z_bool (by decide +kernel) rfl) pa_nil))) (fun _ => rfl)))).pt (pss_cons ps_never pss_nil) pss_nil) (pss_cons (ps_if (pw_or (pt_cmpR op_notBl (pe_call G_is_payload (hRm.mono (by decide)) (by rfl) T.g_is_payload T.F_is_payload.kp T.b_is_payload .nil pass0 (pa_cons pe_non pa_nil)) pe_bl (nomark _)) (pw_or1 (pt_cmpR op_notN (pe_call G_payload_of (hRm.mono (by decide)) (by rfl) T.g_payload_of T.F_payload_of.kp T.b_payload_of .nil pass0 (pa_cons pe_non pa_nil)) pe_non (nomark _)))).pt (pss_cons ps_never pss_nil) pss_nil) (pss_cons (ps_for PassesOwn.never rfl (pi_range1 rfl T.z_range (pa_cons pe_int pa_nil)) (pg_name (i := 4) sc_law.nd rfl (.inl rfl)) (pss_cons (ps_set (i := 5) sc_law.nd rfl (.inl rfl) (pe_tup (pa_cons (pe_op op_add (pv 4) pe_int) (pa_cons (pv 2) (pa_cons (pv 3) (pa_cons (pe_ix ix_list (pv 1) (pv 4) (fun _ _ => rfl)) pa_nil)))))) (pss_cons (ps_set (i := 6) sc_law.nd rfl (.inl rfl) (pe_or (pe_cmpR op_eq (pv 4) pe_int (nomark _)) (pe_one (pe_cmpR op_eq (pv 4) pe_int (nomark _))))) (pss_cons (ps_set (i := 7) sc_law.nd rfl (.inl rfl) (pe_call G_is_payload (hRm.mono (by decide)) (by rfl) T.g_is_payload T.F_is_payload.kp T.b_is_payload .nil pass0 (pa_cons (pv 5) pa_nil))) (pss_cons (ps_set (i := 8) sc_law.nd rfl (.inl rfl) (pe_call G_payload_of (hRm.mono (by decide)) (by rfl) T.g_payload_of T.F_payload_of.kp T.b_payload_of .nil pass0 (pa_cons (pv 5) pa_nil))) (pss_cons (ps_if (pw_or (pt_not (pt_val (pe_callB call_isi (by rfl) T.z_isinstance (by decide +kernel) (pa_cons (pv 7) (pa_cons (pe_bltn (v := .ty "bool") (u := .type "bool") (by rfl) T.z_bool (by decide +kernel) rfl) pa_nil))) (fun _ => rfl))) (pw_or1 (pt_cmpR op_ne (pv 7) (pv 6) (nomark _)))).pt (pss_cons ps_never pss_nil) pss_nil) (pss_cons (ps_if (pw_and (pt_not (pt_val (pv 6) (fun _ => rfl))) (pw_and1 (pt_cmpR op_notN (pv 8) pe_non (nomark _)))).pt (pss_cons ps_never pss_nil) pss_nil) (pss_cons (ps_if (pw_and (pt_val (pv 6) (fun _ => rfl)) (pw_and1 (pw_or (pt_not (pt_val (pe_callB call_isi (by rfl) T.z_isinstance (by decide +kernel) (pa_cons (pv 8) (pa_cons (pe_bltn (v := .ty "tuple") (u := .type "tuple") (by rfl) T.z_tuple (by decide +kernel) rfl) pa_nil))) (fun _ => rfl))) (pw_or1 (pt_cmpR (op_neD hRm.units) (pv 8) (pe_tup (pa_cons (pe_op op_add (pv 4) pe_int) (pa_cons (pe_ix ix_list (pv 1) (pv 4) (fun _ _ => rfl)) pa_nil))) (nomark _)))).pt)).pt (pss_cons ps_never pss_nil) pss_nil) (pss_cons (ps_if (pt_val (pv 6) (fun _ => rfl)) (pss_cons (ps_set (i := 9) sc_law.nd rfl (.inl rfl) (pe_call G_stamped (hRm.mono (by decide)) (by rfl) T.g_stamped T.F_stamped.kp T.b_stamped .nil pass0 (pa_cons (pe_tup (pa_cons (pe_op op_add (pv 4) pe_int) (pa_cons (pe_ix ix_list (pv 1) (pv 4) (fun _ _ => rfl)) pa_nil))) (pa_cons (pe_op op_add (pv 2) pe_int) (pa_cons (pe_op op_add (pv 3) pe_int) pa_nil))))) (pss_cons (ps_if (pw_or (pt_not (pt_val (pe_callB call_isi (by rfl) T.z_isinstance (by decide +kernel) (pa_cons (pv 9) (pa_cons (pe_bltn (v := .ty "tuple") (u := .type "tuple") (by rfl) T.z_tuple (by decide +kernel) rfl) pa_nil))) (fun _ => rfl))) (pw_or1 (pt_cmpR (op_neD hRm.units) (pv 9) (pe_tup (pa_cons (pe_op op_add (pv 4) pe_int) (pa_cons (pe_op op_add (pv 2) pe_int) (pa_cons (pe_op op_add (pv 3) pe_int) (pa_cons (pe_ix ix_list (pv 1) (pv 4) (fun _ _ => rfl)) pa_nil))))) (nomark _)))).pt (pss_cons ps_never pss_nil) pss_nil) pss_nil)) pss_nil) pss_nil))))))))) (pss_cons (ps_ret pe_bl) pss_nil))))))), ?_⟩
    refine c_sig [some (V.ref a), none, none, none, none, none, none, none, none, none] rfl ?_
    refine c_set ?_
    refine c_callx ?_
    refine c_cons ?_
    obtain ⟨n1, en1⟩ : ∃ n : Int, n = (rowF ns 0) := ⟨_, rfl⟩
    have en10 : 0 ≤ n1 := by rw [en1]; exact rowF_nn _ _
    refine (vis (vcall (va (vv 0 rfl) (va vc va0)) (fun _ q => ⟨a, ns, 0, rfl, (s0.sq hS), (by walk_at "side"), q⟩)) (congrArg V.int en1.symm)) _ ?_
    refine c_nil ?_
    refine ⟨n1, rfl, (by walk_at "side"), fun p_2 t1_3 t2_4 t3_5 t4_6 t5_7 a_8 b_9 x_10 ja_11 jb_12 j2_13 j3_14 j4_15 j5_16 H17 r18 => ?_⟩
    have s19 : Hs [] H [(p_2, .lst ([V.ref t1_3, V.ref t2_4, V.ref t3_5, V.ref t4_6, V.ref t5_7])), (t1_3, .tup ([V.ref a_8, V.ref b_9, V.int x_10])), (a_8, .tup (ja_11.map V.int)), (b_9, .tup (jb_12.map V.int)), (t2_4, .tup (j2_13.map V.int)), (t3_5, .tup (j3_14.map V.int)), (t4_6, .tup (j4_15.map V.int)), (t5_7, .tup (j5_16.map V.int))] _ := s0.call0 r18
    refine k_set [some (V.ref a), some (V.ref p_2), none, none, none, none, none, none, none, none] rfl ?_
    obtain ⟨n20, en20⟩ : ∃ n : Int, n = ((rowF ns 1) % 1000000000000000) := ⟨_, rfl⟩
    have en200 : 0 ≤ n20 := by rw [en20]; exact Int.emod_nonneg _ (by walk_at "side")
    have en201 : n20 < 1000000000000000 := by rw [en20]; exact Int.emod_lt_of_pos _ (by walk_at "side")
    refine s_set [some (V.ref a), some (V.ref p_2), some (V.int n20), none, none, none, none, none, none, none] (vis (v1 (C := fun _ j => 0 < j) (g := fun i j => .int (i % j)) (by walk_at "side") (vint (vcall (va (vv 0 rfl) (va vc va0)) (fun _ q => ⟨a, ns, 1, rfl, (s19.sq hS), (by walk_at "side"), q⟩))) (vis (v1 (C := CPow) (g := fun i j => .int (i ^ j.toNat)) ⟨by decide, by decide, by decide⟩ vc vc) (w := .int 1000000000000000) (by rfl))) (congrArg V.int en20.symm)) rfl ?_
    obtain ⟨n21, en21⟩ : ∃ n : Int, n = ((rowF ns 2) % 65536) := ⟨_, rfl⟩
    have en210 : 0 ≤ n21 := by rw [en21]; exact Int.emod_nonneg _ (by walk_at "side")
    have en211 : n21 < 65536 := by rw [en21]; exact Int.emod_lt_of_pos _ (by walk_at "side")
    refine s_set [some (V.ref a), some (V.ref p_2), some (V.int n20), some (V.int n21), none, none, none, none, none, none] (vis (v1 (C := fun _ j => 0 < j) (g := fun i j => .int (i % j)) (by walk_at "side") (vint (vcall (va (vv 0 rfl) (va vc va0)) (fun _ q => ⟨a, ns, 2, rfl, (s19.sq hS), (by walk_at "side"), q⟩))) vc) (congrArg V.int en21.symm)) rfl ?_
    refine c_ifS ?_
    refine c_or ?_
    refine c_test ?_
    refine c_op ?_
    refine c_lst ?_
    refine c_cons ?_
    refine vc _ ?_
    refine c_cons ?_
    refine vc _ ?_
    refine c_cons ?_
    refine vc _ ?_
    refine c_cons ?_
    refine vc _ ?_
    refine c_cons ?_
    refine vc _ ?_
    refine c_nil ?_
    refine ⟨sz1 (by show 5 ≤ 1000000; decide), fun p24 np24 => ?_⟩
    have s25 : Hs [] H [(p24, .lst ([V.int 1, V.int 2, V.int 3, V.int 4, V.int 5])), (p_2, .lst ([V.ref t1_3, V.ref t2_4, V.ref t3_5, V.ref t4_6, V.ref t5_7])), (t1_3, .tup ([V.ref a_8, V.ref b_9, V.int x_10])), (a_8, .tup (ja_11.map V.int)), (b_9, .tup (jb_12.map V.int)), (t2_4, .tup (j2_13.map V.int)), (t3_5, .tup (j3_14.map V.int)), (t4_6, .tup (j4_15.map V.int)), (t5_7, .tup (j5_16.map V.int))] _ := s19.new np24 (.lst ([V.int 1, V.int 2, V.int 3, V.int 4, V.int 5]))
    refine c_lst ?_
    refine c_cons ?_
    refine vc _ ?_
    refine c_cons ?_
    refine vc _ ?_
    refine c_cons ?_
    refine vc _ ?_
    refine c_cons ?_
    refine vc _ ?_
    refine c_cons ?_
    refine vc _ ?_
    refine c_nil ?_
    refine ⟨sz1 (by show 5 ≤ 1000000; decide), fun p26 np26 => ?_⟩
    have s27 : Hs [] H [(p26, .lst ([V.int 1, V.int 2, V.int 3, V.int 4, V.int 5])), (p24, .lst ([V.int 1, V.int 2, V.int 3, V.int 4, V.int 5])), (p_2, .lst ([V.ref t1_3, V.ref t2_4, V.ref t3_5, V.ref t4_6, V.ref t5_7])), (t1_3, .tup ([V.ref a_8, V.ref b_9, V.int x_10])), (a_8, .tup (ja_11.map V.int)), (b_9, .tup (jb_12.map V.int)), (t2_4, .tup (j2_13.map V.int)), (t3_5, .tup (j3_14.map V.int)), (t4_6, .tup (j4_15.map V.int)), (t5_7, .tup (j5_16.map V.int))] _ := s25.new np26 (.lst ([V.int 1, V.int 2, V.int 3, V.int 4, V.int 5]))
    refine ⟨.list [.int 1, .int 2, .int 3, .int 4, .int 5], .list [.int 1, .int 2, .int 3, .int 4, .int 5], (.lst (s27.l 1 rfl) (.cons (.int _) (.cons (.int _) (.cons (.int _) (.cons (.int _) (.cons (.int _) .nil)))))), (.lst (s27.l 0 rfl) (.cons (.int _) (.cons (.int _) (.cons (.int _) (.cons (.int _) (.cons (.int _) .nil)))))), (by walk_at "shp"), (by walk_at "shp"), ?_⟩
    rw [show PyData.eqv (.list [.int 1, .int 2, .int 3, .int 4, .int 5]) (.list [.int 1, .int 2, .int 3, .int 4, .int 5]) = true from SeqAt.eqv_refl _ (SeqAt.canLay_of_shaped (by walk_at "shp"))]
    refine ⟨_, rfl, ?_⟩
    refine c_iteB (fun h23 => ?_) (fun h23 => ?_)
    · -- yes
      exfalso; walk_at "dead"
    · -- no
      refine (vB (vbool (visi (b := false) (tu := .type "int") vc vc (ClsV.ty "bool") (.base (.int _)) (kit_ty (by decide +kernel))))) _ ?_
      refine c_ite (p := false = true) (fun h28 => ?_) (fun h28 => ?_)
      · -- yes
        exfalso; walk_at "dead"
      · -- no
        refine s_nxs ?_
        refine c_ifS ?_
        refine c_or ?_
        refine c_test ?_
        refine c_op ?_
        refine c_callx ?_
        refine c_cons ?_
        refine vc _ ?_
        refine c_nil ?_
        refine .inl ⟨rfl, fun H31 r32 => ?_⟩
        have s33 : Hs [] H [(p26, .lst ([V.int 1, V.int 2, V.int 3, V.int 4, V.int 5])), (p24, .lst ([V.int 1, V.int 2, V.int 3, V.int 4, V.int 5])), (p_2, .lst ([V.ref t1_3, V.ref t2_4, V.ref t3_5, V.ref t4_6, V.ref t5_7])), (t1_3, .tup ([V.ref a_8, V.ref b_9, V.int x_10])), (a_8, .tup (ja_11.map V.int)), (b_9, .tup (jb_12.map V.int)), (t2_4, .tup (j2_13.map V.int)), (t3_5, .tup (j3_14.map V.int)), (t4_6, .tup (j4_15.map V.int)), (t5_7, .tup (j5_16.map V.int))] _ := s27.call0 r32
        refine vc _ ?_
        refine ⟨_, _, rfl, rfl, ?_⟩
        refine ⟨_, rfl, ?_⟩
        refine c_iteB (fun h30 => ?_) (fun h30 => ?_)
        · -- yes
          exfalso; walk_at "dead"
        · -- no
          refine c_test ?_
          refine c_op ?_
          refine c_callx ?_
          refine c_cons ?_
          refine vc _ ?_
          refine c_nil ?_
          refine .inl ⟨rfl, fun H35 r36 => ?_⟩
          have s37 : Hs [] H [(p26, .lst ([V.int 1, V.int 2, V.int 3, V.int 4, V.int 5])), (p24, .lst ([V.int 1, V.int 2, V.int 3, V.int 4, V.int 5])), (p_2, .lst ([V.ref t1_3, V.ref t2_4, V.ref t3_5, V.ref t4_6, V.ref t5_7])), (t1_3, .tup ([V.ref a_8, V.ref b_9, V.int x_10])), (a_8, .tup (ja_11.map V.int)), (b_9, .tup (jb_12.map V.int)), (t2_4, .tup (j2_13.map V.int)), (t3_5, .tup (j3_14.map V.int)), (t4_6, .tup (j4_15.map V.int)), (t5_7, .tup (j5_16.map V.int))] _ := s33.call0 r36
          refine vc _ ?_
          refine ⟨rfl, ?_⟩
          refine ⟨_, rfl, ?_⟩
          refine c_iteB (fun h34 => ?_) (fun h34 => ?_)
          · -- yes
            exfalso; walk_at "dead"
          · -- no
            refine s_nxs ?_
            refine s_unrR1 (m := 5) (va vc va0) (by decide) ?_
            refine u_next ?_
            refine c_sig [some (V.ref a), some (V.ref p_2), some (V.int n20), some (V.int n21), some (V.int 0), none, none, none, none, none] rfl ?_
            refine c_set ?_
            refine c_tup ?_
            refine c_cons ?_
            refine (vis (v0 (g := fun i j => .int (i + j)) (vv 4 rfl) vc) (w := .int 1) (by rfl)) _ ?_
            refine c_cons ?_
            refine (vv 2 rfl) _ ?_
            refine c_cons ?_
            refine (vv 3 rfl) _ ?_
            refine c_cons ?_
            refine (vixL (vv 1 rfl) (vv 4 rfl) (xs := _) (s37.l 2 rfl) (by rfl)) _ ?_
            refine c_nil ?_
            refine ⟨sz1 (by show 4 ≤ 1000000; decide), fun p38 np38 => ?_⟩
            have s39 : Hs [] H [(p38, .tup ([V.int 1, V.int n20, V.int n21, V.ref t1_3])), (p26, .lst ([V.int 1, V.int 2, V.int 3, V.int 4, V.int 5])), (p24, .lst ([V.int 1, V.int 2, V.int 3, V.int 4, V.int 5])), (p_2, .lst ([V.ref t1_3, V.ref t2_4, V.ref t3_5, V.ref t4_6, V.ref t5_7])), (t1_3, .tup ([V.ref a_8, V.ref b_9, V.int x_10])), (a_8, .tup (ja_11.map V.int)), (b_9, .tup (jb_12.map V.int)), (t2_4, .tup (j2_13.map V.int)), (t3_5, .tup (j3_14.map V.int)), (t4_6, .tup (j4_15.map V.int)), (t5_7, .tup (j5_16.map V.int))] _ := s37.new np38 (.tup ([V.int 1, V.int n20, V.int n21, V.ref t1_3]))
            refine k_set [some (V.ref a), some (V.ref p_2), some (V.int n20), some (V.int n21), some (V.int 0), some (V.ref p38), none, none, none, none] rfl ?_
            refine s_set [some (V.ref a), some (V.ref p_2), some (V.int n20), some (V.int n21), some (V.int 0), some (V.ref p38), some (V.bl (decide ((0 = 2) ∨ (0 = 3)))), none, none, none] (vor (veq (vv 4 rfl) vc) (fun hc => (veq (vv 4 rfl) vc))) rfl ?_
            refine c_set ?_
            refine c_callx ?_
            refine c_cons ?_
            refine (vv 5 rfl) _ ?_
            refine c_nil ?_
            refine .inr ⟨p38, 1, n20, n21, (V.ref t1_3), rfl, (s39.t 0 rfl), fun H40 r41 => ?_⟩
            have s42 : Hs [] H [(p38, .tup ([V.int 1, V.int n20, V.int n21, V.ref t1_3])), (p26, .lst ([V.int 1, V.int 2, V.int 3, V.int 4, V.int 5])), (p24, .lst ([V.int 1, V.int 2, V.int 3, V.int 4, V.int 5])), (p_2, .lst ([V.ref t1_3, V.ref t2_4, V.ref t3_5, V.ref t4_6, V.ref t5_7])), (t1_3, .tup ([V.ref a_8, V.ref b_9, V.int x_10])), (a_8, .tup (ja_11.map V.int)), (b_9, .tup (jb_12.map V.int)), (t2_4, .tup (j2_13.map V.int)), (t3_5, .tup (j3_14.map V.int)), (t4_6, .tup (j4_15.map V.int)), (t5_7, .tup (j5_16.map V.int))] _ := s39.call0 r41
            refine k_set [some (V.ref a), some (V.ref p_2), some (V.int n20), some (V.int n21), some (V.int 0), some (V.ref p38), some (V.bl (decide ((0 = 2) ∨ (0 = 3)))), some (V.bl (decide (1 = 3 ∨ 1 = 4))), none, none] rfl ?_
            refine c_set ?_
            refine c_callx ?_
            refine c_cons ?_
            refine (vv 5 rfl) _ ?_
            refine c_nil ?_
            refine .inr (.inr (⟨p38, 1, n20, n21, (V.ref t1_3), rfl, (s42.t 0 rfl), (by walk_at "side"), fun H43 r44 => ?_⟩))
            have s45 : Hs [] H [(p38, .tup ([V.int 1, V.int n20, V.int n21, V.ref t1_3])), (p26, .lst ([V.int 1, V.int 2, V.int 3, V.int 4, V.int 5])), (p24, .lst ([V.int 1, V.int 2, V.int 3, V.int 4, V.int 5])), (p_2, .lst ([V.ref t1_3, V.ref t2_4, V.ref t3_5, V.ref t4_6, V.ref t5_7])), (t1_3, .tup ([V.ref a_8, V.ref b_9, V.int x_10])), (a_8, .tup (ja_11.map V.int)), (b_9, .tup (jb_12.map V.int)), (t2_4, .tup (j2_13.map V.int)), (t3_5, .tup (j3_14.map V.int)), (t4_6, .tup (j4_15.map V.int)), (t5_7, .tup (j5_16.map V.int))] _ := s42.call0 r44
            refine k_set [some (V.ref a), some (V.ref p_2), some (V.int n20), some (V.int n21), some (V.int 0), some (V.ref p38), some (V.bl (decide ((0 = 2) ∨ (0 = 3)))), some (V.bl (decide (1 = 3 ∨ 1 = 4))), some (V.non), none] rfl ?_
            refine s_if (p := (¬ (true = true)) ∨ ((decide (1 = 3 ∨ 1 = 4)) ≠ (decide ((0 = 2) ∨ (0 = 3))))) (aor (anot (vB (vbool (visi (b := true) (tu := .type "bool") (vv 7 rfl) vc (ClsV.ty "bool") (.base (.bl _)) (kit_ty (by decide +kernel)))))) (fun hc => (vtest (vneb (vv 7 rfl) (vv 6 rfl))))) (fun h46 => ?_) (fun h46 => ?_)
            · -- then line 49
              exfalso; walk_at "dead"
            · -- else line 49
              refine s_nxs ?_
              refine s_if (p := (¬ ((0 = 2) ∨ (0 = 3))) ∧ (V.non ≠ V.non)) (aand (anot (vB (vv 6 rfl))) (fun hc => (vtest (vnotN (vv 8 rfl))))) (fun h47 => ?_) (fun h47 => ?_)
              · -- then line 51
                exfalso; walk_at "dead"
              · -- else line 51
                refine s_nxs ?_
                refine c_ifS ?_
                refine c_and ?_
                refine (vB (vv 6 rfl)) _ ?_
                refine c_ite (p := (0 = 2) ∨ (0 = 3)) (fun h49 => ?_) (fun h49 => ?_)
                · -- yes
                  exfalso; walk_at "dead"
                · -- no
                  refine iteF ?_
                  refine s_nxs ?_
                  refine s_if (p := (0 = 2) ∨ (0 = 3)) (vB (vv 6 rfl)) (fun h50 => ?_) (fun h50 => ?_)
                  · -- then line 55
                    exfalso; walk_at "dead"
                  · -- else line 55
                    refine s_nxs ?_
                    refine s_nxu ?_
                    refine u_next ?_
                    refine c_sig [some (V.ref a), some (V.ref p_2), some (V.int n20), some (V.int n21), some (V.int 1), some (V.ref p38), some (V.bl (decide ((0 = 2) ∨ (0 = 3)))), some (V.bl (decide (1 = 3 ∨ 1 = 4))), some (V.non), none] rfl ?_
                    refine c_set ?_
                    refine c_tup ?_
                    refine c_cons ?_
                    refine (vis (v0 (g := fun i j => .int (i + j)) (vv 4 rfl) vc) (w := .int 2) (by rfl)) _ ?_
                    refine c_cons ?_
                    refine (vv 2 rfl) _ ?_
                    refine c_cons ?_
                    refine (vv 3 rfl) _ ?_
                    refine c_cons ?_
                    refine (vixL (vv 1 rfl) (vv 4 rfl) (xs := _) (s45.l 3 rfl) (by rfl)) _ ?_
                    refine c_nil ?_
                    refine ⟨sz1 (by show 4 ≤ 1000000; decide), fun p51 np51 => ?_⟩
                    have s52 : Hs [] H [(p51, .tup ([V.int 2, V.int n20, V.int n21, V.ref t2_4])), (p38, .tup ([V.int 1, V.int n20, V.int n21, V.ref t1_3])), (p26, .lst ([V.int 1, V.int 2, V.int 3, V.int 4, V.int 5])), (p24, .lst ([V.int 1, V.int 2, V.int 3, V.int 4, V.int 5])), (p_2, .lst ([V.ref t1_3, V.ref t2_4, V.ref t3_5, V.ref t4_6, V.ref t5_7])), (t1_3, .tup ([V.ref a_8, V.ref b_9, V.int x_10])), (a_8, .tup (ja_11.map V.int)), (b_9, .tup (jb_12.map V.int)), (t2_4, .tup (j2_13.map V.int)), (t3_5, .tup (j3_14.map V.int)), (t4_6, .tup (j4_15.map V.int)), (t5_7, .tup (j5_16.map V.int))] _ := s45.new np51 (.tup ([V.int 2, V.int n20, V.int n21, V.ref t2_4]))
                    refine k_set [some (V.ref a), some (V.ref p_2), some (V.int n20), some (V.int n21), some (V.int 1), some (V.ref p51), some (V.bl (decide ((0 = 2) ∨ (0 = 3)))), some (V.bl (decide (1 = 3 ∨ 1 = 4))), some (V.non), none] rfl ?_
                    refine s_set [some (V.ref a), some (V.ref p_2), some (V.int n20), some (V.int n21), some (V.int 1), some (V.ref p51), some (V.bl (decide ((1 = 2) ∨ (1 = 3)))), some (V.bl (decide (1 = 3 ∨ 1 = 4))), some (V.non), none] (vor (veq (vv 4 rfl) vc) (fun hc => (veq (vv 4 rfl) vc))) rfl ?_
                    refine c_set ?_
                    refine c_callx ?_
                    refine c_cons ?_
                    refine (vv 5 rfl) _ ?_
                    refine c_nil ?_
                    refine .inr ⟨p51, 2, n20, n21, (V.ref t2_4), rfl, (s52.t 0 rfl), fun H53 r54 => ?_⟩
                    have s55 : Hs [] H [(p51, .tup ([V.int 2, V.int n20, V.int n21, V.ref t2_4])), (p38, .tup ([V.int 1, V.int n20, V.int n21, V.ref t1_3])), (p26, .lst ([V.int 1, V.int 2, V.int 3, V.int 4, V.int 5])), (p24, .lst ([V.int 1, V.int 2, V.int 3, V.int 4, V.int 5])), (p_2, .lst ([V.ref t1_3, V.ref t2_4, V.ref t3_5, V.ref t4_6, V.ref t5_7])), (t1_3, .tup ([V.ref a_8, V.ref b_9, V.int x_10])), (a_8, .tup (ja_11.map V.int)), (b_9, .tup (jb_12.map V.int)), (t2_4, .tup (j2_13.map V.int)), (t3_5, .tup (j3_14.map V.int)), (t4_6, .tup (j4_15.map V.int)), (t5_7, .tup (j5_16.map V.int))] _ := s52.call0 r54
                    refine k_set [some (V.ref a), some (V.ref p_2), some (V.int n20), some (V.int n21), some (V.int 1), some (V.ref p51), some (V.bl (decide ((1 = 2) ∨ (1 = 3)))), some (V.bl (decide (2 = 3 ∨ 2 = 4))), some (V.non), none] rfl ?_
                    refine c_set ?_
                    refine c_callx ?_
                    refine c_cons ?_
                    refine (vv 5 rfl) _ ?_
                    refine c_nil ?_
                    refine .inr (.inr (⟨p51, 2, n20, n21, (V.ref t2_4), rfl, (s55.t 0 rfl), (by walk_at "side"), fun H56 r57 => ?_⟩))
                    have s58 : Hs [] H [(p51, .tup ([V.int 2, V.int n20, V.int n21, V.ref t2_4])), (p38, .tup ([V.int 1, V.int n20, V.int n21, V.ref t1_3])), (p26, .lst ([V.int 1, V.int 2, V.int 3, V.int 4, V.int 5])), (p24, .lst ([V.int 1, V.int 2, V.int 3, V.int 4, V.int 5])), (p_2, .lst ([V.ref t1_3, V.ref t2_4, V.ref t3_5, V.ref t4_6, V.ref t5_7])), (t1_3, .tup ([V.ref a_8, V.ref b_9, V.int x_10])), (a_8, .tup (ja_11.map V.int)), (b_9, .tup (jb_12.map V.int)), (t2_4, .tup (j2_13.map V.int)), (t3_5, .tup (j3_14.map V.int)), (t4_6, .tup (j4_15.map V.int)), (t5_7, .tup (j5_16.map V.int))] _ := s55.call0 r57
                    refine k_set [some (V.ref a), some (V.ref p_2), some (V.int n20), some (V.int n21), some (V.int 1), some (V.ref p51), some (V.bl (decide ((1 = 2) ∨ (1 = 3)))), some (V.bl (decide (2 = 3 ∨ 2 = 4))), some (V.non), none] rfl ?_
                    refine s_if (p := (¬ (true = true)) ∨ ((decide (2 = 3 ∨ 2 = 4)) ≠ (decide ((1 = 2) ∨ (1 = 3))))) (aor (anot (vB (vbool (visi (b := true) (tu := .type "bool") (vv 7 rfl) vc (ClsV.ty "bool") (.base (.bl _)) (kit_ty (by decide +kernel)))))) (fun hc => (vtest (vneb (vv 7 rfl) (vv 6 rfl))))) (fun h59 => ?_) (fun h59 => ?_)
                    · -- then line 49
                      exfalso; walk_at "dead"
                    · -- else line 49
                      refine s_nxs ?_
                      refine s_if (p := (¬ ((1 = 2) ∨ (1 = 3))) ∧ (V.non ≠ V.non)) (aand (anot (vB (vv 6 rfl))) (fun hc => (vtest (vnotN (vv 8 rfl))))) (fun h60 => ?_) (fun h60 => ?_)
                      · -- then line 51
                        exfalso; walk_at "dead"
                      · -- else line 51
                        refine s_nxs ?_
                        refine c_ifS ?_
                        refine c_and ?_
                        refine (vB (vv 6 rfl)) _ ?_
                        refine c_ite (p := (1 = 2) ∨ (1 = 3)) (fun h62 => ?_) (fun h62 => ?_)
                        · -- yes
                          exfalso; walk_at "dead"
                        · -- no
                          refine iteF ?_
                          refine s_nxs ?_
                          refine s_if (p := (1 = 2) ∨ (1 = 3)) (vB (vv 6 rfl)) (fun h63 => ?_) (fun h63 => ?_)
                          · -- then line 55
                            exfalso; walk_at "dead"
                          · -- else line 55
                            refine s_nxs ?_
                            refine s_nxu ?_
                            refine u_next ?_
                            refine c_sig [some (V.ref a), some (V.ref p_2), some (V.int n20), some (V.int n21), some (V.int 2), some (V.ref p51), some (V.bl (decide ((1 = 2) ∨ (1 = 3)))), some (V.bl (decide (2 = 3 ∨ 2 = 4))), some (V.non), none] rfl ?_
                            refine c_set ?_
                            refine c_tup ?_
                            refine c_cons ?_
                            refine (vis (v0 (g := fun i j => .int (i + j)) (vv 4 rfl) vc) (w := .int 3) (by rfl)) _ ?_
                            refine c_cons ?_
                            refine (vv 2 rfl) _ ?_
                            refine c_cons ?_
                            refine (vv 3 rfl) _ ?_
                            refine c_cons ?_
                            refine (vixL (vv 1 rfl) (vv 4 rfl) (xs := _) (s58.l 4 rfl) (by rfl)) _ ?_
                            refine c_nil ?_
                            refine ⟨sz1 (by show 4 ≤ 1000000; decide), fun p64 np64 => ?_⟩
                            have s65 : Hs [] H [(p64, .tup ([V.int 3, V.int n20, V.int n21, V.ref t3_5])), (p51, .tup ([V.int 2, V.int n20, V.int n21, V.ref t2_4])), (p38, .tup ([V.int 1, V.int n20, V.int n21, V.ref t1_3])), (p26, .lst ([V.int 1, V.int 2, V.int 3, V.int 4, V.int 5])), (p24, .lst ([V.int 1, V.int 2, V.int 3, V.int 4, V.int 5])), (p_2, .lst ([V.ref t1_3, V.ref t2_4, V.ref t3_5, V.ref t4_6, V.ref t5_7])), (t1_3, .tup ([V.ref a_8, V.ref b_9, V.int x_10])), (a_8, .tup (ja_11.map V.int)), (b_9, .tup (jb_12.map V.int)), (t2_4, .tup (j2_13.map V.int)), (t3_5, .tup (j3_14.map V.int)), (t4_6, .tup (j4_15.map V.int)), (t5_7, .tup (j5_16.map V.int))] _ := s58.new np64 (.tup ([V.int 3, V.int n20, V.int n21, V.ref t3_5]))
                            refine k_set [some (V.ref a), some (V.ref p_2), some (V.int n20), some (V.int n21), some (V.int 2), some (V.ref p64), some (V.bl (decide ((1 = 2) ∨ (1 = 3)))), some (V.bl (decide (2 = 3 ∨ 2 = 4))), some (V.non), none] rfl ?_
                            refine s_set [some (V.ref a), some (V.ref p_2), some (V.int n20), some (V.int n21), some (V.int 2), some (V.ref p64), some (V.bl (decide ((2 = 2) ∨ (2 = 3)))), some (V.bl (decide (2 = 3 ∨ 2 = 4))), some (V.non), none] (vor (veq (vv 4 rfl) vc) (fun hc => (veq (vv 4 rfl) vc))) rfl ?_
                            refine c_set ?_
                            refine c_callx ?_
                            refine c_cons ?_
                            refine (vv 5 rfl) _ ?_
                            refine c_nil ?_
                            refine .inr ⟨p64, 3, n20, n21, (V.ref t3_5), rfl, (s65.t 0 rfl), fun H66 r67 => ?_⟩
                            have s68 : Hs [] H [(p64, .tup ([V.int 3, V.int n20, V.int n21, V.ref t3_5])), (p51, .tup ([V.int 2, V.int n20, V.int n21, V.ref t2_4])), (p38, .tup ([V.int 1, V.int n20, V.int n21, V.ref t1_3])), (p26, .lst ([V.int 1, V.int 2, V.int 3, V.int 4, V.int 5])), (p24, .lst ([V.int 1, V.int 2, V.int 3, V.int 4, V.int 5])), (p_2, .lst ([V.ref t1_3, V.ref t2_4, V.ref t3_5, V.ref t4_6, V.ref t5_7])), (t1_3, .tup ([V.ref a_8, V.ref b_9, V.int x_10])), (a_8, .tup (ja_11.map V.int)), (b_9, .tup (jb_12.map V.int)), (t2_4, .tup (j2_13.map V.int)), (t3_5, .tup (j3_14.map V.int)), (t4_6, .tup (j4_15.map V.int)), (t5_7, .tup (j5_16.map V.int))] _ := s65.call0 r67
                            refine k_set [some (V.ref a), some (V.ref p_2), some (V.int n20), some (V.int n21), some (V.int 2), some (V.ref p64), some (V.bl (decide ((2 = 2) ∨ (2 = 3)))), some (V.bl (decide (3 = 3 ∨ 3 = 4))), some (V.non), none] rfl ?_
                            refine c_set ?_
                            refine c_callx ?_
                            refine c_cons ?_
                            refine (vv 5 rfl) _ ?_
                            refine c_nil ?_
                            refine .inr (.inl ⟨p64, 3, n20, n21, (V.ref t3_5), rfl, (s68.t 0 rfl), (by walk_at "side"), fun p_69 H70 r71 => ?_⟩)
                            have s72 : Hs [] H [(p_69, .tup ([V.int 3, (V.ref t3_5)])), (p64, .tup ([V.int 3, V.int n20, V.int n21, V.ref t3_5])), (p51, .tup ([V.int 2, V.int n20, V.int n21, V.ref t2_4])), (p38, .tup ([V.int 1, V.int n20, V.int n21, V.ref t1_3])), (p26, .lst ([V.int 1, V.int 2, V.int 3, V.int 4, V.int 5])), (p24, .lst ([V.int 1, V.int 2, V.int 3, V.int 4, V.int 5])), (p_2, .lst ([V.ref t1_3, V.ref t2_4, V.ref t3_5, V.ref t4_6, V.ref t5_7])), (t1_3, .tup ([V.ref a_8, V.ref b_9, V.int x_10])), (a_8, .tup (ja_11.map V.int)), (b_9, .tup (jb_12.map V.int)), (t2_4, .tup (j2_13.map V.int)), (t3_5, .tup (j3_14.map V.int)), (t4_6, .tup (j4_15.map V.int)), (t5_7, .tup (j5_16.map V.int))] _ := s68.call0 r71
                            refine k_set [some (V.ref a), some (V.ref p_2), some (V.int n20), some (V.int n21), some (V.int 2), some (V.ref p64), some (V.bl (decide ((2 = 2) ∨ (2 = 3)))), some (V.bl (decide (3 = 3 ∨ 3 = 4))), some (V.ref p_69), none] rfl ?_
                            refine s_if (p := (¬ (true = true)) ∨ ((decide (3 = 3 ∨ 3 = 4)) ≠ (decide ((2 = 2) ∨ (2 = 3))))) (aor (anot (vB (vbool (visi (b := true) (tu := .type "bool") (vv 7 rfl) vc (ClsV.ty "bool") (.base (.bl _)) (kit_ty (by decide +kernel)))))) (fun hc => (vtest (vneb (vv 7 rfl) (vv 6 rfl))))) (fun h73 => ?_) (fun h73 => ?_)
                            · -- then line 49
                              exfalso; walk_at "dead"
                            · -- else line 49
                              refine s_nxs ?_
                              refine s_if (p := (¬ ((2 = 2) ∨ (2 = 3))) ∧ (V.ref p_69 ≠ V.non)) (aand (anot (vB (vv 6 rfl))) (fun hc => (vtest (vnotN (vv 8 rfl))))) (fun h74 => ?_) (fun h74 => ?_)
                              · -- then line 51
                                exfalso; walk_at "dead"
                              · -- else line 51
                                refine s_nxs ?_
                                refine c_ifS ?_
                                refine c_and ?_
                                refine (vB (vv 6 rfl)) _ ?_
                                refine c_ite (p := (2 = 2) ∨ (2 = 3)) (fun h76 => ?_) (fun h76 => ?_)
                                · -- yes
                                  refine c_or ?_
                                  refine c_not ?_
                                  refine (vB (vbool (visi (b := true) (tu := .type "tuple") (vv 8 rfl) vc (ClsV.ty "tuple") (.base (.tup (s72.mem 0 rfl))) (kit_ty (by decide +kernel))))) _ ?_
                                  refine c_iten (p := true = true) (fun h77 => ?_) (fun h77 => ?_)
                                  · -- no
                                    exfalso; walk_at "dead"
                                  · -- yes
                                    refine c_test ?_
                                    refine c_op ?_
                                    refine (vv 8 rfl) _ ?_
                                    refine c_tup ?_
                                    refine c_cons ?_
                                    refine (vis (v0 (g := fun i j => .int (i + j)) (vv 4 rfl) vc) (w := .int 3) (by rfl)) _ ?_
                                    refine c_cons ?_
                                    refine (vixL (vv 1 rfl) (vv 4 rfl) (xs := _) (s72.l 6 rfl) (by rfl)) _ ?_
                                    refine c_nil ?_
                                    refine ⟨sz1 (by show 2 ≤ 1000000; decide), fun p79 np79 => ?_⟩
                                    have s80 : Hs [] H [(p79, .tup ([V.int 3, V.ref t3_5])), (p_69, .tup ([V.int 3, (V.ref t3_5)])), (p64, .tup ([V.int 3, V.int n20, V.int n21, V.ref t3_5])), (p51, .tup ([V.int 2, V.int n20, V.int n21, V.ref t2_4])), (p38, .tup ([V.int 1, V.int n20, V.int n21, V.ref t1_3])), (p26, .lst ([V.int 1, V.int 2, V.int 3, V.int 4, V.int 5])), (p24, .lst ([V.int 1, V.int 2, V.int 3, V.int 4, V.int 5])), (p_2, .lst ([V.ref t1_3, V.ref t2_4, V.ref t3_5, V.ref t4_6, V.ref t5_7])), (t1_3, .tup ([V.ref a_8, V.ref b_9, V.int x_10])), (a_8, .tup (ja_11.map V.int)), (b_9, .tup (jb_12.map V.int)), (t2_4, .tup (j2_13.map V.int)), (t3_5, .tup (j3_14.map V.int)), (t4_6, .tup (j4_15.map V.int)), (t5_7, .tup (j5_16.map V.int))] _ := s72.new np79 (.tup ([V.int 3, V.ref t3_5]))
                                    refine ⟨.tuple [.int 3, .tuple (j3_14.map PyData.int)], .tuple [.int 3, .tuple (j3_14.map PyData.int)], (.tup (s80.t 1 rfl) (.cons (.int _) (.cons (.tup (s80.t 12 rfl) (dp_ints j3_14)) .nil))), (.tup (s80.t 0 rfl) (.cons (.int _) (.cons (.tup (s80.t 12 rfl) (dp_ints j3_14)) .nil))), (by walk_at "shp"), (by walk_at "shp"), ?_⟩
                                    rw [show PyData.eqv (.tuple [.int 3, .tuple (j3_14.map PyData.int)]) (.tuple [.int 3, .tuple (j3_14.map PyData.int)]) = true from SeqAt.eqv_refl _ (SeqAt.canLay_of_shaped (by walk_at "shp"))]
                                    refine ⟨_, rfl, ?_⟩
                                    refine c_iteB (fun h78 => ?_) (fun h78 => ?_)
                                    · -- yes
                                      exfalso; walk_at "dead"
                                    · -- no
                                      refine s_nxs ?_
                                      refine s_if (p := (2 = 2) ∨ (2 = 3)) (vB (vv 6 rfl)) (fun h81 => ?_) (fun h81 => ?_)
                                      · -- then line 55
                                        refine c_set ?_
                                        refine c_callx ?_
                                        refine c_cons ?_
                                        refine c_tup ?_
                                        refine c_cons ?_
                                        refine (vis (v0 (g := fun i j => .int (i + j)) (vv 4 rfl) vc) (w := .int 3) (by rfl)) _ ?_
                                        refine c_cons ?_
                                        refine (vixL (vv 1 rfl) (vv 4 rfl) (xs := _) (s80.l 7 rfl) (by rfl)) _ ?_
                                        refine c_nil ?_
                                        refine ⟨sz1 (by show 2 ≤ 1000000; decide), fun p82 np82 => ?_⟩
                                        have s83 : Hs [] H [(p82, .tup ([V.int 3, V.ref t3_5])), (p79, .tup ([V.int 3, V.ref t3_5])), (p_69, .tup ([V.int 3, (V.ref t3_5)])), (p64, .tup ([V.int 3, V.int n20, V.int n21, V.ref t3_5])), (p51, .tup ([V.int 2, V.int n20, V.int n21, V.ref t2_4])), (p38, .tup ([V.int 1, V.int n20, V.int n21, V.ref t1_3])), (p26, .lst ([V.int 1, V.int 2, V.int 3, V.int 4, V.int 5])), (p24, .lst ([V.int 1, V.int 2, V.int 3, V.int 4, V.int 5])), (p_2, .lst ([V.ref t1_3, V.ref t2_4, V.ref t3_5, V.ref t4_6, V.ref t5_7])), (t1_3, .tup ([V.ref a_8, V.ref b_9, V.int x_10])), (a_8, .tup (ja_11.map V.int)), (b_9, .tup (jb_12.map V.int)), (t2_4, .tup (j2_13.map V.int)), (t3_5, .tup (j3_14.map V.int)), (t4_6, .tup (j4_15.map V.int)), (t5_7, .tup (j5_16.map V.int))] _ := s80.new np82 (.tup ([V.int 3, V.ref t3_5]))
                                        refine c_cons ?_
                                        obtain ⟨n84, en84⟩ : ∃ n : Int, n = (n20 + 1) := ⟨_, rfl⟩
                                        refine (vis (v0 (g := fun i j => .int (i + j)) (vv 2 rfl) vc) (congrArg V.int en84.symm)) _ ?_
                                        refine c_cons ?_
                                        obtain ⟨n85, en85⟩ : ∃ n : Int, n = (n21 + 2) := ⟨_, rfl⟩
                                        refine (vis (v0 (g := fun i j => .int (i + j)) (vv 3 rfl) vc) (congrArg V.int en85.symm)) _ ?_
                                        refine c_nil ?_
                                        refine ⟨p82, 3, n84, n85, (V.ref t3_5), rfl, (s83.t 0 rfl), fun p_86 H87 r88 => ?_⟩
                                        have s89 : Hs [] H [(p_86, .tup ([V.int 3, V.int n84, V.int n85, (V.ref t3_5)])), (p82, .tup ([V.int 3, V.ref t3_5])), (p79, .tup ([V.int 3, V.ref t3_5])), (p_69, .tup ([V.int 3, (V.ref t3_5)])), (p64, .tup ([V.int 3, V.int n20, V.int n21, V.ref t3_5])), (p51, .tup ([V.int 2, V.int n20, V.int n21, V.ref t2_4])), (p38, .tup ([V.int 1, V.int n20, V.int n21, V.ref t1_3])), (p26, .lst ([V.int 1, V.int 2, V.int 3, V.int 4, V.int 5])), (p24, .lst ([V.int 1, V.int 2, V.int 3, V.int 4, V.int 5])), (p_2, .lst ([V.ref t1_3, V.ref t2_4, V.ref t3_5, V.ref t4_6, V.ref t5_7])), (t1_3, .tup ([V.ref a_8, V.ref b_9, V.int x_10])), (a_8, .tup (ja_11.map V.int)), (b_9, .tup (jb_12.map V.int)), (t2_4, .tup (j2_13.map V.int)), (t3_5, .tup (j3_14.map V.int)), (t4_6, .tup (j4_15.map V.int)), (t5_7, .tup (j5_16.map V.int))] _ := s83.call0 r88
                                        refine k_set [some (V.ref a), some (V.ref p_2), some (V.int n20), some (V.int n21), some (V.int 2), some (V.ref p64), some (V.bl (decide ((2 = 2) ∨ (2 = 3)))), some (V.bl (decide (3 = 3 ∨ 3 = 4))), some (V.ref p_69), some (V.ref p_86)] rfl ?_
                                        refine c_ifS ?_
                                        refine c_or ?_
                                        refine c_not ?_
                                        refine (vB (vbool (visi (b := true) (tu := .type "tuple") (vv 9 rfl) vc (ClsV.ty "tuple") (.base (.tup (s89.mem 0 rfl))) (kit_ty (by decide +kernel))))) _ ?_
                                        refine c_iten (p := true = true) (fun h91 => ?_) (fun h91 => ?_)
                                        · -- no
                                          exfalso; walk_at "dead"
                                        · -- yes
                                          refine c_test ?_
                                          refine c_op ?_
                                          refine (vv 9 rfl) _ ?_
                                          refine c_tup ?_
                                          refine c_cons ?_
                                          refine (vis (v0 (g := fun i j => .int (i + j)) (vv 4 rfl) vc) (w := .int 3) (by rfl)) _ ?_
                                          refine c_cons ?_
                                          refine (vis (v0 (g := fun i j => .int (i + j)) (vv 2 rfl) vc) (congrArg V.int en84.symm)) _ ?_
                                          refine c_cons ?_
                                          refine (vis (v0 (g := fun i j => .int (i + j)) (vv 3 rfl) vc) (congrArg V.int en85.symm)) _ ?_
                                          refine c_cons ?_
                                          refine (vixL (vv 1 rfl) (vv 4 rfl) (xs := _) (s89.l 9 rfl) (by rfl)) _ ?_
                                          refine c_nil ?_
                                          refine ⟨sz1 (by show 4 ≤ 1000000; decide), fun p93 np93 => ?_⟩
                                          have s94 : Hs [] H [(p93, .tup ([V.int 3, V.int n84, V.int n85, V.ref t3_5])), (p_86, .tup ([V.int 3, V.int n84, V.int n85, (V.ref t3_5)])), (p82, .tup ([V.int 3, V.ref t3_5])), (p79, .tup ([V.int 3, V.ref t3_5])), (p_69, .tup ([V.int 3, (V.ref t3_5)])), (p64, .tup ([V.int 3, V.int n20, V.int n21, V.ref t3_5])), (p51, .tup ([V.int 2, V.int n20, V.int n21, V.ref t2_4])), (p38, .tup ([V.int 1, V.int n20, V.int n21, V.ref t1_3])), (p26, .lst ([V.int 1, V.int 2, V.int 3, V.int 4, V.int 5])), (p24, .lst ([V.int 1, V.int 2, V.int 3, V.int 4, V.int 5])), (p_2, .lst ([V.ref t1_3, V.ref t2_4, V.ref t3_5, V.ref t4_6, V.ref t5_7])), (t1_3, .tup ([V.ref a_8, V.ref b_9, V.int x_10])), (a_8, .tup (ja_11.map V.int)), (b_9, .tup (jb_12.map V.int)), (t2_4, .tup (j2_13.map V.int)), (t3_5, .tup (j3_14.map V.int)), (t4_6, .tup (j4_15.map V.int)), (t5_7, .tup (j5_16.map V.int))] _ := s89.new np93 (.tup ([V.int 3, V.int n84, V.int n85, V.ref t3_5]))
                                          refine ⟨.tuple [.int 3, .int n84, .int n85, .tuple (j3_14.map PyData.int)], .tuple [.int 3, .int n84, .int n85, .tuple (j3_14.map PyData.int)], (.tup (s94.t 1 rfl) (.cons (.int _) (.cons (.int _) (.cons (.int _) (.cons (.tup (s94.t 15 rfl) (dp_ints j3_14)) .nil))))), (.tup (s94.t 0 rfl) (.cons (.int _) (.cons (.int _) (.cons (.int _) (.cons (.tup (s94.t 15 rfl) (dp_ints j3_14)) .nil))))), (by walk_at "shp"), (by walk_at "shp"), ?_⟩
                                          rw [show PyData.eqv (.tuple [.int 3, .int n84, .int n85, .tuple (j3_14.map PyData.int)]) (.tuple [.int 3, .int n84, .int n85, .tuple (j3_14.map PyData.int)]) = true from SeqAt.eqv_refl _ (SeqAt.canLay_of_shaped (by walk_at "shp"))]
                                          refine ⟨_, rfl, ?_⟩
                                          refine c_iteB (fun h92 => ?_) (fun h92 => ?_)
                                          · -- yes
                                            exfalso; walk_at "dead"
                                          · -- no
                                            refine s_nxs ?_
                                            refine s_nxs ?_
                                            refine s_nxu ?_
                                            refine u_next ?_
                                            refine c_sig [some (V.ref a), some (V.ref p_2), some (V.int n20), some (V.int n21), some (V.int 3), some (V.ref p64), some (V.bl (decide ((2 = 2) ∨ (2 = 3)))), some (V.bl (decide (3 = 3 ∨ 3 = 4))), some (V.ref p_69), some (V.ref p_86)] rfl ?_
                                            refine c_set ?_
                                            refine c_tup ?_
                                            refine c_cons ?_
                                            refine (vis (v0 (g := fun i j => .int (i + j)) (vv 4 rfl) vc) (w := .int 4) (by rfl)) _ ?_
                                            refine c_cons ?_
                                            refine (vv 2 rfl) _ ?_
                                            refine c_cons ?_
                                            refine (vv 3 rfl) _ ?_
                                            refine c_cons ?_
                                            refine (vixL (vv 1 rfl) (vv 4 rfl) (xs := _) (s94.l 10 rfl) (by rfl)) _ ?_
                                            refine c_nil ?_
                                            refine ⟨sz1 (by show 4 ≤ 1000000; decide), fun p95 np95 => ?_⟩
                                            have s96 : Hs [] H [(p95, .tup ([V.int 4, V.int n20, V.int n21, V.ref t4_6])), (p93, .tup ([V.int 3, V.int n84, V.int n85, V.ref t3_5])), (p_86, .tup ([V.int 3, V.int n84, V.int n85, (V.ref t3_5)])), (p82, .tup ([V.int 3, V.ref t3_5])), (p79, .tup ([V.int 3, V.ref t3_5])), (p_69, .tup ([V.int 3, (V.ref t3_5)])), (p64, .tup ([V.int 3, V.int n20, V.int n21, V.ref t3_5])), (p51, .tup ([V.int 2, V.int n20, V.int n21, V.ref t2_4])), (p38, .tup ([V.int 1, V.int n20, V.int n21, V.ref t1_3])), (p26, .lst ([V.int 1, V.int 2, V.int 3, V.int 4, V.int 5])), (p24, .lst ([V.int 1, V.int 2, V.int 3, V.int 4, V.int 5])), (p_2, .lst ([V.ref t1_3, V.ref t2_4, V.ref t3_5, V.ref t4_6, V.ref t5_7])), (t1_3, .tup ([V.ref a_8, V.ref b_9, V.int x_10])), (a_8, .tup (ja_11.map V.int)), (b_9, .tup (jb_12.map V.int)), (t2_4, .tup (j2_13.map V.int)), (t3_5, .tup (j3_14.map V.int)), (t4_6, .tup (j4_15.map V.int)), (t5_7, .tup (j5_16.map V.int))] _ := s94.new np95 (.tup ([V.int 4, V.int n20, V.int n21, V.ref t4_6]))
                                            refine k_set [some (V.ref a), some (V.ref p_2), some (V.int n20), some (V.int n21), some (V.int 3), some (V.ref p95), some (V.bl (decide ((2 = 2) ∨ (2 = 3)))), some (V.bl (decide (3 = 3 ∨ 3 = 4))), some (V.ref p_69), some (V.ref p_86)] rfl ?_
                                            refine s_set [some (V.ref a), some (V.ref p_2), some (V.int n20), some (V.int n21), some (V.int 3), some (V.ref p95), some (V.bl (decide ((3 = 2) ∨ (3 = 3)))), some (V.bl (decide (3 = 3 ∨ 3 = 4))), some (V.ref p_69), some (V.ref p_86)] (vor (veq (vv 4 rfl) vc) (fun hc => (veq (vv 4 rfl) vc))) rfl ?_
                                            refine c_set ?_
                                            refine c_callx ?_
                                            refine c_cons ?_
                                            refine (vv 5 rfl) _ ?_
                                            refine c_nil ?_
                                            refine .inr ⟨p95, 4, n20, n21, (V.ref t4_6), rfl, (s96.t 0 rfl), fun H97 r98 => ?_⟩
                                            have s99 : Hs [] H [(p95, .tup ([V.int 4, V.int n20, V.int n21, V.ref t4_6])), (p93, .tup ([V.int 3, V.int n84, V.int n85, V.ref t3_5])), (p_86, .tup ([V.int 3, V.int n84, V.int n85, (V.ref t3_5)])), (p82, .tup ([V.int 3, V.ref t3_5])), (p79, .tup ([V.int 3, V.ref t3_5])), (p_69, .tup ([V.int 3, (V.ref t3_5)])), (p64, .tup ([V.int 3, V.int n20, V.int n21, V.ref t3_5])), (p51, .tup ([V.int 2, V.int n20, V.int n21, V.ref t2_4])), (p38, .tup ([V.int 1, V.int n20, V.int n21, V.ref t1_3])), (p26, .lst ([V.int 1, V.int 2, V.int 3, V.int 4, V.int 5])), (p24, .lst ([V.int 1, V.int 2, V.int 3, V.int 4, V.int 5])), (p_2, .lst ([V.ref t1_3, V.ref t2_4, V.ref t3_5, V.ref t4_6, V.ref t5_7])), (t1_3, .tup ([V.ref a_8, V.ref b_9, V.int x_10])), (a_8, .tup (ja_11.map V.int)), (b_9, .tup (jb_12.map V.int)), (t2_4, .tup (j2_13.map V.int)), (t3_5, .tup (j3_14.map V.int)), (t4_6, .tup (j4_15.map V.int)), (t5_7, .tup (j5_16.map V.int))] _ := s96.call0 r98
                                            refine k_set [some (V.ref a), some (V.ref p_2), some (V.int n20), some (V.int n21), some (V.int 3), some (V.ref p95), some (V.bl (decide ((3 = 2) ∨ (3 = 3)))), some (V.bl (decide (4 = 3 ∨ 4 = 4))), some (V.ref p_69), some (V.ref p_86)] rfl ?_
                                            refine c_set ?_
                                            refine c_callx ?_
                                            refine c_cons ?_
                                            refine (vv 5 rfl) _ ?_
                                            refine c_nil ?_
                                            refine .inr (.inl ⟨p95, 4, n20, n21, (V.ref t4_6), rfl, (s99.t 0 rfl), (by walk_at "side"), fun p_100 H101 r102 => ?_⟩)
                                            have s103 : Hs [] H [(p_100, .tup ([V.int 4, (V.ref t4_6)])), (p95, .tup ([V.int 4, V.int n20, V.int n21, V.ref t4_6])), (p93, .tup ([V.int 3, V.int n84, V.int n85, V.ref t3_5])), (p_86, .tup ([V.int 3, V.int n84, V.int n85, (V.ref t3_5)])), (p82, .tup ([V.int 3, V.ref t3_5])), (p79, .tup ([V.int 3, V.ref t3_5])), (p_69, .tup ([V.int 3, (V.ref t3_5)])), (p64, .tup ([V.int 3, V.int n20, V.int n21, V.ref t3_5])), (p51, .tup ([V.int 2, V.int n20, V.int n21, V.ref t2_4])), (p38, .tup ([V.int 1, V.int n20, V.int n21, V.ref t1_3])), (p26, .lst ([V.int 1, V.int 2, V.int 3, V.int 4, V.int 5])), (p24, .lst ([V.int 1, V.int 2, V.int 3, V.int 4, V.int 5])), (p_2, .lst ([V.ref t1_3, V.ref t2_4, V.ref t3_5, V.ref t4_6, V.ref t5_7])), (t1_3, .tup ([V.ref a_8, V.ref b_9, V.int x_10])), (a_8, .tup (ja_11.map V.int)), (b_9, .tup (jb_12.map V.int)), (t2_4, .tup (j2_13.map V.int)), (t3_5, .tup (j3_14.map V.int)), (t4_6, .tup (j4_15.map V.int)), (t5_7, .tup (j5_16.map V.int))] _ := s99.call0 r102
                                            refine k_set [some (V.ref a), some (V.ref p_2), some (V.int n20), some (V.int n21), some (V.int 3), some (V.ref p95), some (V.bl (decide ((3 = 2) ∨ (3 = 3)))), some (V.bl (decide (4 = 3 ∨ 4 = 4))), some (V.ref p_100), some (V.ref p_86)] rfl ?_
                                            refine s_if (p := (¬ (true = true)) ∨ ((decide (4 = 3 ∨ 4 = 4)) ≠ (decide ((3 = 2) ∨ (3 = 3))))) (aor (anot (vB (vbool (visi (b := true) (tu := .type "bool") (vv 7 rfl) vc (ClsV.ty "bool") (.base (.bl _)) (kit_ty (by decide +kernel)))))) (fun hc => (vtest (vneb (vv 7 rfl) (vv 6 rfl))))) (fun h104 => ?_) (fun h104 => ?_)
                                            · -- then line 49
                                              exfalso; walk_at "dead"
                                            · -- else line 49
                                              refine s_nxs ?_
                                              refine s_if (p := (¬ ((3 = 2) ∨ (3 = 3))) ∧ (V.ref p_100 ≠ V.non)) (aand (anot (vB (vv 6 rfl))) (fun hc => (vtest (vnotN (vv 8 rfl))))) (fun h105 => ?_) (fun h105 => ?_)
                                              · -- then line 51
                                                exfalso; walk_at "dead"
                                              · -- else line 51
                                                refine s_nxs ?_
                                                refine c_ifS ?_
                                                refine c_and ?_
                                                refine (vB (vv 6 rfl)) _ ?_
                                                refine c_ite (p := (3 = 2) ∨ (3 = 3)) (fun h107 => ?_) (fun h107 => ?_)
                                                · -- yes
                                                  refine c_or ?_
                                                  refine c_not ?_
                                                  refine (vB (vbool (visi (b := true) (tu := .type "tuple") (vv 8 rfl) vc (ClsV.ty "tuple") (.base (.tup (s103.mem 0 rfl))) (kit_ty (by decide +kernel))))) _ ?_
                                                  refine c_iten (p := true = true) (fun h108 => ?_) (fun h108 => ?_)
                                                  · -- no
                                                    exfalso; walk_at "dead"
                                                  · -- yes
                                                    refine c_test ?_
                                                    refine c_op ?_
                                                    refine (vv 8 rfl) _ ?_
                                                    refine c_tup ?_
                                                    refine c_cons ?_
                                                    refine (vis (v0 (g := fun i j => .int (i + j)) (vv 4 rfl) vc) (w := .int 4) (by rfl)) _ ?_
                                                    refine c_cons ?_
                                                    refine (vixL (vv 1 rfl) (vv 4 rfl) (xs := _) (s103.l 12 rfl) (by rfl)) _ ?_
                                                    refine c_nil ?_
                                                    refine ⟨sz1 (by show 2 ≤ 1000000; decide), fun p110 np110 => ?_⟩
                                                    have s111 : Hs [] H [(p110, .tup ([V.int 4, V.ref t4_6])), (p_100, .tup ([V.int 4, (V.ref t4_6)])), (p95, .tup ([V.int 4, V.int n20, V.int n21, V.ref t4_6])), (p93, .tup ([V.int 3, V.int n84, V.int n85, V.ref t3_5])), (p_86, .tup ([V.int 3, V.int n84, V.int n85, (V.ref t3_5)])), (p82, .tup ([V.int 3, V.ref t3_5])), (p79, .tup ([V.int 3, V.ref t3_5])), (p_69, .tup ([V.int 3, (V.ref t3_5)])), (p64, .tup ([V.int 3, V.int n20, V.int n21, V.ref t3_5])), (p51, .tup ([V.int 2, V.int n20, V.int n21, V.ref t2_4])), (p38, .tup ([V.int 1, V.int n20, V.int n21, V.ref t1_3])), (p26, .lst ([V.int 1, V.int 2, V.int 3, V.int 4, V.int 5])), (p24, .lst ([V.int 1, V.int 2, V.int 3, V.int 4, V.int 5])), (p_2, .lst ([V.ref t1_3, V.ref t2_4, V.ref t3_5, V.ref t4_6, V.ref t5_7])), (t1_3, .tup ([V.ref a_8, V.ref b_9, V.int x_10])), (a_8, .tup (ja_11.map V.int)), (b_9, .tup (jb_12.map V.int)), (t2_4, .tup (j2_13.map V.int)), (t3_5, .tup (j3_14.map V.int)), (t4_6, .tup (j4_15.map V.int)), (t5_7, .tup (j5_16.map V.int))] _ := s103.new np110 (.tup ([V.int 4, V.ref t4_6]))
                                                    refine ⟨.tuple [.int 4, .tuple (j4_15.map PyData.int)], .tuple [.int 4, .tuple (j4_15.map PyData.int)], (.tup (s111.t 1 rfl) (.cons (.int _) (.cons (.tup (s111.t 19 rfl) (dp_ints j4_15)) .nil))), (.tup (s111.t 0 rfl) (.cons (.int _) (.cons (.tup (s111.t 19 rfl) (dp_ints j4_15)) .nil))), (by walk_at "shp"), (by walk_at "shp"), ?_⟩
                                                    rw [show PyData.eqv (.tuple [.int 4, .tuple (j4_15.map PyData.int)]) (.tuple [.int 4, .tuple (j4_15.map PyData.int)]) = true from SeqAt.eqv_refl _ (SeqAt.canLay_of_shaped (by walk_at "shp"))]
                                                    refine ⟨_, rfl, ?_⟩
                                                    refine c_iteB (fun h109 => ?_) (fun h109 => ?_)
                                                    · -- yes
                                                      exfalso; walk_at "dead"
                                                    · -- no
                                                      refine s_nxs ?_
                                                      refine s_if (p := (3 = 2) ∨ (3 = 3)) (vB (vv 6 rfl)) (fun h112 => ?_) (fun h112 => ?_)
                                                      · -- then line 55
                                                        refine c_set ?_
                                                        refine c_callx ?_
                                                        refine c_cons ?_
                                                        refine c_tup ?_
                                                        refine c_cons ?_
                                                        refine (vis (v0 (g := fun i j => .int (i + j)) (vv 4 rfl) vc) (w := .int 4) (by rfl)) _ ?_
                                                        refine c_cons ?_
                                                        refine (vixL (vv 1 rfl) (vv 4 rfl) (xs := _) (s111.l 13 rfl) (by rfl)) _ ?_
                                                        refine c_nil ?_
                                                        refine ⟨sz1 (by show 2 ≤ 1000000; decide), fun p113 np113 => ?_⟩
                                                        have s114 : Hs [] H [(p113, .tup ([V.int 4, V.ref t4_6])), (p110, .tup ([V.int 4, V.ref t4_6])), (p_100, .tup ([V.int 4, (V.ref t4_6)])), (p95, .tup ([V.int 4, V.int n20, V.int n21, V.ref t4_6])), (p93, .tup ([V.int 3, V.int n84, V.int n85, V.ref t3_5])), (p_86, .tup ([V.int 3, V.int n84, V.int n85, (V.ref t3_5)])), (p82, .tup ([V.int 3, V.ref t3_5])), (p79, .tup ([V.int 3, V.ref t3_5])), (p_69, .tup ([V.int 3, (V.ref t3_5)])), (p64, .tup ([V.int 3, V.int n20, V.int n21, V.ref t3_5])), (p51, .tup ([V.int 2, V.int n20, V.int n21, V.ref t2_4])), (p38, .tup ([V.int 1, V.int n20, V.int n21, V.ref t1_3])), (p26, .lst ([V.int 1, V.int 2, V.int 3, V.int 4, V.int 5])), (p24, .lst ([V.int 1, V.int 2, V.int 3, V.int 4, V.int 5])), (p_2, .lst ([V.ref t1_3, V.ref t2_4, V.ref t3_5, V.ref t4_6, V.ref t5_7])), (t1_3, .tup ([V.ref a_8, V.ref b_9, V.int x_10])), (a_8, .tup (ja_11.map V.int)), (b_9, .tup (jb_12.map V.int)), (t2_4, .tup (j2_13.map V.int)), (t3_5, .tup (j3_14.map V.int)), (t4_6, .tup (j4_15.map V.int)), (t5_7, .tup (j5_16.map V.int))] _ := s111.new np113 (.tup ([V.int 4, V.ref t4_6]))
                                                        refine c_cons ?_
                                                        refine (vis (v0 (g := fun i j => .int (i + j)) (vv 2 rfl) vc) (congrArg V.int en84.symm)) _ ?_
                                                        refine c_cons ?_
                                                        refine (vis (v0 (g := fun i j => .int (i + j)) (vv 3 rfl) vc) (congrArg V.int en85.symm)) _ ?_
                                                        refine c_nil ?_
                                                        refine ⟨p113, 4, n84, n85, (V.ref t4_6), rfl, (s114.t 0 rfl), fun p_115 H116 r117 => ?_⟩
                                                        have s118 : Hs [] H [(p_115, .tup ([V.int 4, V.int n84, V.int n85, (V.ref t4_6)])), (p113, .tup ([V.int 4, V.ref t4_6])), (p110, .tup ([V.int 4, V.ref t4_6])), (p_100, .tup ([V.int 4, (V.ref t4_6)])), (p95, .tup ([V.int 4, V.int n20, V.int n21, V.ref t4_6])), (p93, .tup ([V.int 3, V.int n84, V.int n85, V.ref t3_5])), (p_86, .tup ([V.int 3, V.int n84, V.int n85, (V.ref t3_5)])), (p82, .tup ([V.int 3, V.ref t3_5])), (p79, .tup ([V.int 3, V.ref t3_5])), (p_69, .tup ([V.int 3, (V.ref t3_5)])), (p64, .tup ([V.int 3, V.int n20, V.int n21, V.ref t3_5])), (p51, .tup ([V.int 2, V.int n20, V.int n21, V.ref t2_4])), (p38, .tup ([V.int 1, V.int n20, V.int n21, V.ref t1_3])), (p26, .lst ([V.int 1, V.int 2, V.int 3, V.int 4, V.int 5])), (p24, .lst ([V.int 1, V.int 2, V.int 3, V.int 4, V.int 5])), (p_2, .lst ([V.ref t1_3, V.ref t2_4, V.ref t3_5, V.ref t4_6, V.ref t5_7])), (t1_3, .tup ([V.ref a_8, V.ref b_9, V.int x_10])), (a_8, .tup (ja_11.map V.int)), (b_9, .tup (jb_12.map V.int)), (t2_4, .tup (j2_13.map V.int)), (t3_5, .tup (j3_14.map V.int)), (t4_6, .tup (j4_15.map V.int)), (t5_7, .tup (j5_16.map V.int))] _ := s114.call0 r117
                                                        refine k_set [some (V.ref a), some (V.ref p_2), some (V.int n20), some (V.int n21), some (V.int 3), some (V.ref p95), some (V.bl (decide ((3 = 2) ∨ (3 = 3)))), some (V.bl (decide (4 = 3 ∨ 4 = 4))), some (V.ref p_100), some (V.ref p_115)] rfl ?_
                                                        refine c_ifS ?_
                                                        refine c_or ?_
                                                        refine c_not ?_
                                                        refine (vB (vbool (visi (b := true) (tu := .type "tuple") (vv 9 rfl) vc (ClsV.ty "tuple") (.base (.tup (s118.mem 0 rfl))) (kit_ty (by decide +kernel))))) _ ?_
                                                        refine c_iten (p := true = true) (fun h120 => ?_) (fun h120 => ?_)
                                                        · -- no
                                                          exfalso; walk_at "dead"
                                                        · -- yes
                                                          refine c_test ?_
                                                          refine c_op ?_
                                                          refine (vv 9 rfl) _ ?_
                                                          refine c_tup ?_
                                                          refine c_cons ?_
                                                          refine (vis (v0 (g := fun i j => .int (i + j)) (vv 4 rfl) vc) (w := .int 4) (by rfl)) _ ?_
                                                          refine c_cons ?_
                                                          refine (vis (v0 (g := fun i j => .int (i + j)) (vv 2 rfl) vc) (congrArg V.int en84.symm)) _ ?_
                                                          refine c_cons ?_
                                                          refine (vis (v0 (g := fun i j => .int (i + j)) (vv 3 rfl) vc) (congrArg V.int en85.symm)) _ ?_
                                                          refine c_cons ?_
                                                          refine (vixL (vv 1 rfl) (vv 4 rfl) (xs := _) (s118.l 15 rfl) (by rfl)) _ ?_
                                                          refine c_nil ?_
                                                          refine ⟨sz1 (by show 4 ≤ 1000000; decide), fun p122 np122 => ?_⟩
                                                          have s123 : Hs [] H [(p122, .tup ([V.int 4, V.int n84, V.int n85, V.ref t4_6])), (p_115, .tup ([V.int 4, V.int n84, V.int n85, (V.ref t4_6)])), (p113, .tup ([V.int 4, V.ref t4_6])), (p110, .tup ([V.int 4, V.ref t4_6])), (p_100, .tup ([V.int 4, (V.ref t4_6)])), (p95, .tup ([V.int 4, V.int n20, V.int n21, V.ref t4_6])), (p93, .tup ([V.int 3, V.int n84, V.int n85, V.ref t3_5])), (p_86, .tup ([V.int 3, V.int n84, V.int n85, (V.ref t3_5)])), (p82, .tup ([V.int 3, V.ref t3_5])), (p79, .tup ([V.int 3, V.ref t3_5])), (p_69, .tup ([V.int 3, (V.ref t3_5)])), (p64, .tup ([V.int 3, V.int n20, V.int n21, V.ref t3_5])), (p51, .tup ([V.int 2, V.int n20, V.int n21, V.ref t2_4])), (p38, .tup ([V.int 1, V.int n20, V.int n21, V.ref t1_3])), (p26, .lst ([V.int 1, V.int 2, V.int 3, V.int 4, V.int 5])), (p24, .lst ([V.int 1, V.int 2, V.int 3, V.int 4, V.int 5])), (p_2, .lst ([V.ref t1_3, V.ref t2_4, V.ref t3_5, V.ref t4_6, V.ref t5_7])), (t1_3, .tup ([V.ref a_8, V.ref b_9, V.int x_10])), (a_8, .tup (ja_11.map V.int)), (b_9, .tup (jb_12.map V.int)), (t2_4, .tup (j2_13.map V.int)), (t3_5, .tup (j3_14.map V.int)), (t4_6, .tup (j4_15.map V.int)), (t5_7, .tup (j5_16.map V.int))] _ := s118.new np122 (.tup ([V.int 4, V.int n84, V.int n85, V.ref t4_6]))
                                                          refine ⟨.tuple [.int 4, .int n84, .int n85, .tuple (j4_15.map PyData.int)], .tuple [.int 4, .int n84, .int n85, .tuple (j4_15.map PyData.int)], (.tup (s123.t 1 rfl) (.cons (.int _) (.cons (.int _) (.cons (.int _) (.cons (.tup (s123.t 22 rfl) (dp_ints j4_15)) .nil))))), (.tup (s123.t 0 rfl) (.cons (.int _) (.cons (.int _) (.cons (.int _) (.cons (.tup (s123.t 22 rfl) (dp_ints j4_15)) .nil))))), (by walk_at "shp"), (by walk_at "shp"), ?_⟩
                                                          rw [show PyData.eqv (.tuple [.int 4, .int n84, .int n85, .tuple (j4_15.map PyData.int)]) (.tuple [.int 4, .int n84, .int n85, .tuple (j4_15.map PyData.int)]) = true from SeqAt.eqv_refl _ (SeqAt.canLay_of_shaped (by walk_at "shp"))]
                                                          refine ⟨_, rfl, ?_⟩
                                                          refine c_iteB (fun h121 => ?_) (fun h121 => ?_)
                                                          · -- yes
                                                            exfalso; walk_at "dead"
                                                          · -- no
                                                            refine s_nxs ?_
                                                            refine s_nxs ?_
                                                            refine s_nxu ?_
                                                            refine u_next ?_
                                                            refine c_sig [some (V.ref a), some (V.ref p_2), some (V.int n20), some (V.int n21), some (V.int 4), some (V.ref p95), some (V.bl (decide ((3 = 2) ∨ (3 = 3)))), some (V.bl (decide (4 = 3 ∨ 4 = 4))), some (V.ref p_100), some (V.ref p_115)] rfl ?_
                                                            refine c_set ?_
                                                            refine c_tup ?_
                                                            refine c_cons ?_
                                                            refine (vis (v0 (g := fun i j => .int (i + j)) (vv 4 rfl) vc) (w := .int 5) (by rfl)) _ ?_
                                                            refine c_cons ?_
                                                            refine (vv 2 rfl) _ ?_
                                                            refine c_cons ?_
                                                            refine (vv 3 rfl) _ ?_
                                                            refine c_cons ?_
                                                            refine (vixL (vv 1 rfl) (vv 4 rfl) (xs := _) (s123.l 16 rfl) (by rfl)) _ ?_
                                                            refine c_nil ?_
                                                            refine ⟨sz1 (by show 4 ≤ 1000000; decide), fun p124 np124 => ?_⟩
                                                            have s125 : Hs [] H [(p124, .tup ([V.int 5, V.int n20, V.int n21, V.ref t5_7])), (p122, .tup ([V.int 4, V.int n84, V.int n85, V.ref t4_6])), (p_115, .tup ([V.int 4, V.int n84, V.int n85, (V.ref t4_6)])), (p113, .tup ([V.int 4, V.ref t4_6])), (p110, .tup ([V.int 4, V.ref t4_6])), (p_100, .tup ([V.int 4, (V.ref t4_6)])), (p95, .tup ([V.int 4, V.int n20, V.int n21, V.ref t4_6])), (p93, .tup ([V.int 3, V.int n84, V.int n85, V.ref t3_5])), (p_86, .tup ([V.int 3, V.int n84, V.int n85, (V.ref t3_5)])), (p82, .tup ([V.int 3, V.ref t3_5])), (p79, .tup ([V.int 3, V.ref t3_5])), (p_69, .tup ([V.int 3, (V.ref t3_5)])), (p64, .tup ([V.int 3, V.int n20, V.int n21, V.ref t3_5])), (p51, .tup ([V.int 2, V.int n20, V.int n21, V.ref t2_4])), (p38, .tup ([V.int 1, V.int n20, V.int n21, V.ref t1_3])), (p26, .lst ([V.int 1, V.int 2, V.int 3, V.int 4, V.int 5])), (p24, .lst ([V.int 1, V.int 2, V.int 3, V.int 4, V.int 5])), (p_2, .lst ([V.ref t1_3, V.ref t2_4, V.ref t3_5, V.ref t4_6, V.ref t5_7])), (t1_3, .tup ([V.ref a_8, V.ref b_9, V.int x_10])), (a_8, .tup (ja_11.map V.int)), (b_9, .tup (jb_12.map V.int)), (t2_4, .tup (j2_13.map V.int)), (t3_5, .tup (j3_14.map V.int)), (t4_6, .tup (j4_15.map V.int)), (t5_7, .tup (j5_16.map V.int))] _ := s123.new np124 (.tup ([V.int 5, V.int n20, V.int n21, V.ref t5_7]))
                                                            refine k_set [some (V.ref a), some (V.ref p_2), some (V.int n20), some (V.int n21), some (V.int 4), some (V.ref p124), some (V.bl (decide ((3 = 2) ∨ (3 = 3)))), some (V.bl (decide (4 = 3 ∨ 4 = 4))), some (V.ref p_100), some (V.ref p_115)] rfl ?_
                                                            refine s_set [some (V.ref a), some (V.ref p_2), some (V.int n20), some (V.int n21), some (V.int 4), some (V.ref p124), some (V.bl (decide ((4 = 2) ∨ (4 = 3)))), some (V.bl (decide (4 = 3 ∨ 4 = 4))), some (V.ref p_100), some (V.ref p_115)] (vor (veq (vv 4 rfl) vc) (fun hc => (veq (vv 4 rfl) vc))) rfl ?_
                                                            refine c_set ?_
                                                            refine c_callx ?_
                                                            refine c_cons ?_
                                                            refine (vv 5 rfl) _ ?_
                                                            refine c_nil ?_
                                                            refine .inr ⟨p124, 5, n20, n21, (V.ref t5_7), rfl, (s125.t 0 rfl), fun H126 r127 => ?_⟩
                                                            have s128 : Hs [] H [(p124, .tup ([V.int 5, V.int n20, V.int n21, V.ref t5_7])), (p122, .tup ([V.int 4, V.int n84, V.int n85, V.ref t4_6])), (p_115, .tup ([V.int 4, V.int n84, V.int n85, (V.ref t4_6)])), (p113, .tup ([V.int 4, V.ref t4_6])), (p110, .tup ([V.int 4, V.ref t4_6])), (p_100, .tup ([V.int 4, (V.ref t4_6)])), (p95, .tup ([V.int 4, V.int n20, V.int n21, V.ref t4_6])), (p93, .tup ([V.int 3, V.int n84, V.int n85, V.ref t3_5])), (p_86, .tup ([V.int 3, V.int n84, V.int n85, (V.ref t3_5)])), (p82, .tup ([V.int 3, V.ref t3_5])), (p79, .tup ([V.int 3, V.ref t3_5])), (p_69, .tup ([V.int 3, (V.ref t3_5)])), (p64, .tup ([V.int 3, V.int n20, V.int n21, V.ref t3_5])), (p51, .tup ([V.int 2, V.int n20, V.int n21, V.ref t2_4])), (p38, .tup ([V.int 1, V.int n20, V.int n21, V.ref t1_3])), (p26, .lst ([V.int 1, V.int 2, V.int 3, V.int 4, V.int 5])), (p24, .lst ([V.int 1, V.int 2, V.int 3, V.int 4, V.int 5])), (p_2, .lst ([V.ref t1_3, V.ref t2_4, V.ref t3_5, V.ref t4_6, V.ref t5_7])), (t1_3, .tup ([V.ref a_8, V.ref b_9, V.int x_10])), (a_8, .tup (ja_11.map V.int)), (b_9, .tup (jb_12.map V.int)), (t2_4, .tup (j2_13.map V.int)), (t3_5, .tup (j3_14.map V.int)), (t4_6, .tup (j4_15.map V.int)), (t5_7, .tup (j5_16.map V.int))] _ := s125.call0 r127
                                                            refine k_set [some (V.ref a), some (V.ref p_2), some (V.int n20), some (V.int n21), some (V.int 4), some (V.ref p124), some (V.bl (decide ((4 = 2) ∨ (4 = 3)))), some (V.bl (decide (5 = 3 ∨ 5 = 4))), some (V.ref p_100), some (V.ref p_115)] rfl ?_
                                                            refine c_set ?_
                                                            refine c_callx ?_
                                                            refine c_cons ?_
                                                            refine (vv 5 rfl) _ ?_
                                                            refine c_nil ?_
                                                            refine .inr (.inr (⟨p124, 5, n20, n21, (V.ref t5_7), rfl, (s128.t 0 rfl), (by walk_at "side"), fun H129 r130 => ?_⟩))
                                                            have s131 : Hs [] H [(p124, .tup ([V.int 5, V.int n20, V.int n21, V.ref t5_7])), (p122, .tup ([V.int 4, V.int n84, V.int n85, V.ref t4_6])), (p_115, .tup ([V.int 4, V.int n84, V.int n85, (V.ref t4_6)])), (p113, .tup ([V.int 4, V.ref t4_6])), (p110, .tup ([V.int 4, V.ref t4_6])), (p_100, .tup ([V.int 4, (V.ref t4_6)])), (p95, .tup ([V.int 4, V.int n20, V.int n21, V.ref t4_6])), (p93, .tup ([V.int 3, V.int n84, V.int n85, V.ref t3_5])), (p_86, .tup ([V.int 3, V.int n84, V.int n85, (V.ref t3_5)])), (p82, .tup ([V.int 3, V.ref t3_5])), (p79, .tup ([V.int 3, V.ref t3_5])), (p_69, .tup ([V.int 3, (V.ref t3_5)])), (p64, .tup ([V.int 3, V.int n20, V.int n21, V.ref t3_5])), (p51, .tup ([V.int 2, V.int n20, V.int n21, V.ref t2_4])), (p38, .tup ([V.int 1, V.int n20, V.int n21, V.ref t1_3])), (p26, .lst ([V.int 1, V.int 2, V.int 3, V.int 4, V.int 5])), (p24, .lst ([V.int 1, V.int 2, V.int 3, V.int 4, V.int 5])), (p_2, .lst ([V.ref t1_3, V.ref t2_4, V.ref t3_5, V.ref t4_6, V.ref t5_7])), (t1_3, .tup ([V.ref a_8, V.ref b_9, V.int x_10])), (a_8, .tup (ja_11.map V.int)), (b_9, .tup (jb_12.map V.int)), (t2_4, .tup (j2_13.map V.int)), (t3_5, .tup (j3_14.map V.int)), (t4_6, .tup (j4_15.map V.int)), (t5_7, .tup (j5_16.map V.int))] _ := s128.call0 r130
                                                            refine k_set [some (V.ref a), some (V.ref p_2), some (V.int n20), some (V.int n21), some (V.int 4), some (V.ref p124), some (V.bl (decide ((4 = 2) ∨ (4 = 3)))), some (V.bl (decide (5 = 3 ∨ 5 = 4))), some (V.non), some (V.ref p_115)] rfl ?_
                                                            refine s_if (p := (¬ (true = true)) ∨ ((decide (5 = 3 ∨ 5 = 4)) ≠ (decide ((4 = 2) ∨ (4 = 3))))) (aor (anot (vB (vbool (visi (b := true) (tu := .type "bool") (vv 7 rfl) vc (ClsV.ty "bool") (.base (.bl _)) (kit_ty (by decide +kernel)))))) (fun hc => (vtest (vneb (vv 7 rfl) (vv 6 rfl))))) (fun h132 => ?_) (fun h132 => ?_)
                                                            · -- then line 49
                                                              exfalso; walk_at "dead"
                                                            · -- else line 49
                                                              refine s_nxs ?_
                                                              refine s_if (p := (¬ ((4 = 2) ∨ (4 = 3))) ∧ (V.non ≠ V.non)) (aand (anot (vB (vv 6 rfl))) (fun hc => (vtest (vnotN (vv 8 rfl))))) (fun h133 => ?_) (fun h133 => ?_)
                                                              · -- then line 51
                                                                exfalso; walk_at "dead"
                                                              · -- else line 51
                                                                refine s_nxs ?_
                                                                refine c_ifS ?_
                                                                refine c_and ?_
                                                                refine (vB (vv 6 rfl)) _ ?_
                                                                refine c_ite (p := (4 = 2) ∨ (4 = 3)) (fun h135 => ?_) (fun h135 => ?_)
                                                                · -- yes
                                                                  exfalso; walk_at "dead"
                                                                · -- no
                                                                  refine iteF ?_
                                                                  refine s_nxs ?_
                                                                  refine s_if (p := (4 = 2) ∨ (4 = 3)) (vB (vv 6 rfl)) (fun h136 => ?_) (fun h136 => ?_)
                                                                  · -- then line 55
                                                                    exfalso; walk_at "dead"
                                                                  · -- else line 55
                                                                    refine s_nxs ?_
                                                                    refine s_nxu ?_
                                                                    refine u_done ?_
                                                                    refine s_ret vc ?_
                                                                    exact fin (kq _) (by walk_at "fin")
                                                      · -- else line 55
                                                        exfalso; walk_at "dead"
                                                · -- no
                                                  exfalso; walk_at "dead"
                                      · -- else line 55
                                        exfalso; walk_at "dead"
                                · -- no
                                  exfalso; walk_at "dead"
end
theorem all_mk {l : PySem.W.OpenLaw} {w : World} {K : PySem.W.Frag} {h : Heap} {mg : Str → Option Value} {fa : Addr} {od_is_payload an_is_payload : Option Addr} {sl_is_payload : Array (Option Value)} {oc_is_payload kV_is_payload dc_is_payload pm_is_payload cd_is_payload ct_is_payload : Value} {a_is_payload : Addr}
    {od_payload_of an_payload_of : Option Addr} {sl_payload_of : Array (Option Value)} {oc_payload_of kV_payload_of dc_payload_of pm_payload_of cd_payload_of ct_payload_of : Value} {a_payload_of : Addr}
    {od_stamped an_stamped : Option Addr} {sl_stamped : Array (Option Value)} {oc_stamped kV_stamped dc_stamped pm_stamped cd_stamped ct_stamped : Value} {a_stamped : Addr}
    {od__law_row an__law_row : Option Addr} {sl__law_row : Array (Option Value)} {oc__law_row kV__law_row dc__law_row pm__law_row cd__law_row ct__law_row : Value} {a__law_row : Addr}
    {od__law_bodies an__law_bodies : Option Addr} {sl__law_bodies : Array (Option Value)} {oc__law_bodies kV__law_bodies dc__law_bodies pm__law_bodies cd__law_bodies ct__law_bodies : Value} {a__law_bodies : Addr}
    {od_law an_law : Option Addr} {sl_law : Array (Option Value)} {oc_law kV_law dc_law pm_law cd_law ct_law : Value} {a_law : Addr}
    {t_COMMIT : Tok}
    {t_DATA : Tok}
    {t_MOVE : Tok}
    {t_NODE : Tok}
    {t_PART : Tok} (X : K.In h) (G : h.Ns mainGlobals mg) (hfa : mg "law" = some (.ref fa))
    (k_COMMIT : PySem.W.nsIn K mainGlobals "COMMIT" = some (some (.int 1 t_COMMIT)))
    (k_DATA : PySem.W.nsIn K mainGlobals "DATA" = some (some (.int 3 t_DATA)))
    (k_MOVE : PySem.W.nsIn K mainGlobals "MOVE" = some (some (.int 2 t_MOVE)))
    (k_NODE : PySem.W.nsIn K mainGlobals "NODE" = some (some (.int 4 t_NODE)))
    (k_PART : PySem.W.nsIn K mainGlobals "PART" = some (some (.int 5 t_PART)))
    (z_bool : PySem.W.nsIn K mainGlobals "bool" = some none)
    (z_int : PySem.W.nsIn K mainGlobals "int" = some none)
    (z_isinstance : PySem.W.nsIn K mainGlobals "isinstance" = some none)
    (z_len : PySem.W.nsIn K mainGlobals "len" = some none)
    (z_range : PySem.W.nsIn K mainGlobals "range" = some none)
    (z_sorted : PySem.W.nsIn K mainGlobals "sorted" = some none)
    (z_tuple : PySem.W.nsIn K mainGlobals "tuple" = some none)
    (h1_is_payload : PySem.W.nsIn K mainGlobals "is_payload" = some (some (.ref a_is_payload)))
    (h3_is_payload : K.lookup a_is_payload = some ⟨oc_is_payload, od_is_payload, .func (PySem.W.fnOf "is_payload" "is_payload" (defArgs st_is_payload) (defBody st_is_payload) (defScope st_is_payload) .none kV_is_payload dc_is_payload pm_is_payload an_is_payload cd_is_payload ct_is_payload), sl_is_payload⟩)
    (h4_is_payload : PySem.W.codeIn K cd_is_payload "is_payload" = true)
    (h5_is_payload : PySem.W.keepIn K (.ref a_is_payload) = true)
    (h1_payload_of : PySem.W.nsIn K mainGlobals "payload_of" = some (some (.ref a_payload_of)))
    (h3_payload_of : K.lookup a_payload_of = some ⟨oc_payload_of, od_payload_of, .func (PySem.W.fnOf "payload_of" "payload_of" (defArgs st_payload_of) (defBody st_payload_of) (defScope st_payload_of) .none kV_payload_of dc_payload_of pm_payload_of an_payload_of cd_payload_of ct_payload_of), sl_payload_of⟩)
    (h4_payload_of : PySem.W.codeIn K cd_payload_of "payload_of" = true)
    (h5_payload_of : PySem.W.keepIn K (.ref a_payload_of) = true)
    (h1_stamped : PySem.W.nsIn K mainGlobals "stamped" = some (some (.ref a_stamped)))
    (h3_stamped : K.lookup a_stamped = some ⟨oc_stamped, od_stamped, .func (PySem.W.fnOf "stamped" "stamped" (defArgs st_stamped) (defBody st_stamped) (defScope st_stamped) .none kV_stamped dc_stamped pm_stamped an_stamped cd_stamped ct_stamped), sl_stamped⟩)
    (h4_stamped : PySem.W.codeIn K cd_stamped "stamped" = true)
    (h5_stamped : PySem.W.keepIn K (.ref a_stamped) = true)
    (h1__law_row : PySem.W.nsIn K mainGlobals "_law_row" = some (some (.ref a__law_row)))
    (h3__law_row : K.lookup a__law_row = some ⟨oc__law_row, od__law_row, .func (PySem.W.fnOf "_law_row" "_law_row" (defArgs st__law_row) (defBody st__law_row) (defScope st__law_row) .none kV__law_row dc__law_row pm__law_row an__law_row cd__law_row ct__law_row), sl__law_row⟩)
    (h4__law_row : PySem.W.codeIn K cd__law_row "_law_row" = true)
    (h5__law_row : PySem.W.keepIn K (.ref a__law_row) = true)
    (h1__law_bodies : PySem.W.nsIn K mainGlobals "_law_bodies" = some (some (.ref a__law_bodies)))
    (h3__law_bodies : K.lookup a__law_bodies = some ⟨oc__law_bodies, od__law_bodies, .func (PySem.W.fnOf "_law_bodies" "_law_bodies" (defArgs st__law_bodies) (defBody st__law_bodies) (defScope st__law_bodies) .none kV__law_bodies dc__law_bodies pm__law_bodies an__law_bodies cd__law_bodies ct__law_bodies), sl__law_bodies⟩)
    (h4__law_bodies : PySem.W.codeIn K cd__law_bodies "_law_bodies" = true)
    (h5__law_bodies : PySem.W.keepIn K (.ref a__law_bodies) = true)
    (h1_law : PySem.W.nsIn K mainGlobals "law" = some (some (.ref a_law)))
    (h3_law : K.lookup a_law = some ⟨oc_law, od_law, .func (PySem.W.fnOf "law" "law" (defArgs st_law) (defBody st_law) (defScope st_law) .none kV_law dc_law pm_law an_law cd_law ct_law), sl_law⟩)
    (h4_law : PySem.W.codeIn K cd_law "law" = true)
    (h5_law : PySem.W.keepIn K (.ref a_law) = true)
    : ∃ fd : FuncData, (∀ (s : Shared) (v : Value), BindsTo s fd ⟨[v], []⟩ [("_law_script", v)]) ∧ ∀ base : Heap, K.In base → base.Ns mainGlobals mg → FnOk l.prog w K mg base CX0 3 fa fd ["_law_script"] (sp_law0 K) := by
  have e := hfa.symm.trans (PySem.W.mg_of X G h1_law)
  cases e
  let A : Ads := ⟨a_is_payload, PySem.W.fnOf "is_payload" "is_payload" (defArgs st_is_payload) (defBody st_is_payload) (defScope st_is_payload) .none kV_is_payload dc_is_payload pm_is_payload an_is_payload cd_is_payload ct_is_payload, a_payload_of, PySem.W.fnOf "payload_of" "payload_of" (defArgs st_payload_of) (defBody st_payload_of) (defScope st_payload_of) .none kV_payload_of dc_payload_of pm_payload_of an_payload_of cd_payload_of ct_payload_of, a_stamped, PySem.W.fnOf "stamped" "stamped" (defArgs st_stamped) (defBody st_stamped) (defScope st_stamped) .none kV_stamped dc_stamped pm_stamped an_stamped cd_stamped ct_stamped, a__law_row, PySem.W.fnOf "_law_row" "_law_row" (defArgs st__law_row) (defBody st__law_row) (defScope st__law_row) .none kV__law_row dc__law_row pm__law_row an__law_row cd__law_row ct__law_row, a__law_bodies, PySem.W.fnOf "_law_bodies" "_law_bodies" (defArgs st__law_bodies) (defBody st__law_bodies) (defScope st__law_bodies) .none kV__law_bodies dc__law_bodies pm__law_bodies an__law_bodies cd__law_bodies ct__law_bodies, fa, PySem.W.fnOf "law" "law" (defArgs st_law) (defBody st_law) (defScope st_law) .none kV_law dc_law pm_law an_law cd_law ct_law, t_COMMIT, t_DATA, t_MOVE, t_NODE, t_PART⟩
  have T : Txt K mg A := ⟨fun_mk (st := st_is_payload) h3_is_payload h4_is_payload h5_is_payload,
    (fun_mk (st := st_is_payload) h3_is_payload h4_is_payload h5_is_payload).binds (ps := ["block"]) fun _ _ _ _ _ _ us hl => match us, hl with | [_], _ => rfl,
    PySem.W.mg_of X G h1_is_payload,
    fun_mk (st := st_payload_of) h3_payload_of h4_payload_of h5_payload_of,
    (fun_mk (st := st_payload_of) h3_payload_of h4_payload_of h5_payload_of).binds (ps := ["block"]) fun _ _ _ _ _ _ us hl => match us, hl with | [_], _ => rfl,
    PySem.W.mg_of X G h1_payload_of,
    fun_mk (st := st_stamped) h3_stamped h4_stamped h5_stamped,
    (fun_mk (st := st_stamped) h3_stamped h4_stamped h5_stamped).binds (ps := ["payload", "sequence", "rank"]) fun _ _ _ _ _ _ us hl => match us, hl with | [_, _, _], _ => rfl,
    PySem.W.mg_of X G h1_stamped,
    fun_mk (st := st__law_row) h3__law_row h4__law_row h5__law_row,
    (fun_mk (st := st__law_row) h3__law_row h4__law_row h5__law_row).binds (ps := ["_law_script", "_law_k"]) fun _ _ _ _ _ _ us hl => match us, hl with | [_, _], _ => rfl,
    PySem.W.mg_of X G h1__law_row,
    fun_mk (st := st__law_bodies) h3__law_bodies h4__law_bodies h5__law_bodies,
    (fun_mk (st := st__law_bodies) h3__law_bodies h4__law_bodies h5__law_bodies).binds (ps := ["_law_row_here"]) fun _ _ _ _ _ _ us hl => match us, hl with | [_], _ => rfl,
    PySem.W.mg_of X G h1__law_bodies,
    fun_mk (st := st_law) h3_law h4_law h5_law,
    (fun_mk (st := st_law) h3_law h4_law h5_law).binds (ps := ["_law_script"]) fun _ _ _ _ _ _ us hl => match us, hl with | [_], _ => rfl,
    PySem.W.mg_of X G h1_law,
    PySem.W.mg_of X G k_COMMIT,
    PySem.W.mg_of X G k_DATA,
    PySem.W.mg_of X G k_MOVE,
    PySem.W.mg_of X G k_NODE,
    PySem.W.mg_of X G k_PART,
    PySem.W.mg_none_of X G z_bool,
    PySem.W.mg_none_of X G z_int,
    PySem.W.mg_none_of X G z_isinstance,
    PySem.W.mg_none_of X G z_len,
    PySem.W.mg_none_of X G z_range,
    PySem.W.mg_none_of X G z_sorted,
    PySem.W.mg_none_of X G z_tuple⟩
  exact ⟨PySem.W.fnOf "law" "law" (defArgs st_law) (defBody st_law) (defScope st_law) .none kV_law dc_law pm_law an_law cd_law ct_law, fun s v => .of_eq rfl, fun base _ _ => ok_law T⟩
end X
open PySem PySem.W PyProof.Rows
set_option maxHeartbeats 0 in
theorem PySem.Challenge.cw_segmentfs_k00_kinds_of_blocks_holds : PySem.Challenge.rw_segmentfs_k00_kinds_of_blocks.Holds := by
  w_on; o_law; k_head; (case hw => w_witness2)
  k_fill
  refine L2.walk_of (l := PySem.Challenge.rw_segmentfs_k00_kinds_of_blocks) (n := 63) (k := 3) (x := "_law_script") (CX := fun _ => L2.CX0) (sp := fun w => X.sp_law0 _) rfl (by decide) rfl ⟨rfl, by decide, by decide⟩ (fun w h Y => PySem.W.kIn_of Y) ?F (fun _ _ a ns hl _ hS => ⟨a, ns, rfl, hS, hl, fun _ => rfl⟩) (fun _ _ _ _ _ h => h)
  case F =>
    intro w mg fa h KX G hmg
    refine' X.all_mk KX G hmg ?k_COMMIT ?k_DATA ?k_MOVE ?k_NODE ?k_PART ?z_bool ?z_int ?z_isinstance ?z_len ?z_range ?z_sorted ?z_tuple ?h1_is_payload ?h3_is_payload ?h4_is_payload ?h5_is_payload ?h1_payload_of ?h3_payload_of ?h4_payload_of ?h5_payload_of ?h1_stamped ?h3_stamped ?h4_stamped ?h5_stamped ?h1__law_row ?h3__law_row ?h4__law_row ?h5__law_row ?h1__law_bodies ?h3__law_bodies ?h4__law_bodies ?h5__law_bodies ?h1_law ?h3_law ?h4_law ?h5_law
    (case k_COMMIT => k_is)
    (case k_DATA => k_is)
    (case k_MOVE => k_is)
    (case k_NODE => k_is)
    (case k_PART => k_is)
    (case z_bool => k_is)
    (case z_int => k_is)
    (case z_isinstance => k_is)
    (case z_len => k_is)
    (case z_range => k_is)
    (case z_sorted => k_is)
    (case z_tuple => k_is)
    (case h1_is_payload => k_is)
    (case h3_is_payload => k_is)
    (case h4_is_payload => k_is)
    (case h5_is_payload => k_is)
    (case h1_payload_of => k_is)
    (case h3_payload_of => k_is)
    (case h4_payload_of => k_is)
    (case h5_payload_of => k_is)
    (case h1_stamped => k_is)
    (case h3_stamped => k_is)
    (case h4_stamped => k_is)
    (case h5_stamped => k_is)
    (case h1__law_row => k_is)
    (case h3__law_row => k_is)
    (case h4__law_row => k_is)
    (case h5__law_row => k_is)
    (case h1__law_bodies => k_is)
    (case h3__law_bodies => k_is)
    (case h4__law_bodies => k_is)
    (case h5__law_bodies => k_is)
    (case h1_law => k_is)
    (case h3_law => k_is)
    (case h4_law => k_is)
    (case h5_law => k_is)
