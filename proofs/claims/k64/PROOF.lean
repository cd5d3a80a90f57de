import PyProof.Rows.All
import Wide.All
import OpenK.AllK
import Wide.FinOn
import HandS.ForMost
import HandS.NoneIn
import HandS.IsInst
import HandS.Wide
import HandS.Style
import HandS.SortInts
import HandS.Conv
import HandS.Walk
import HandS.More
import HandS.Rev
import HandS.RevTup
import HandS.MakeKw
import HandS.Property
import HandS.TryOnly
import HandS.ExcIs
import HandS.ExcOwn
import HandS.TupMul
import HandS.TupAny
import HandS.AnyAll
import HandS.Defaults
import HandS.Dict
import HandS.EndOwn
import HandS.WordsExc
import PySem.Challenge.RW_segmentfs_k64_layouts_and_addresses
set_option Elab.async false
set_option linter.all false
set_option maxRecDepth 100000
set_option maxHeartbeats 4000000
/-! ### prelude: the state of a walk (Hs), values (Val), tests (Ans), statements -/
namespace G
open PySem PySem.Spec PyProof.Rows L2
/-- all of B but F stands as it stood; the cells L are the walk's own (new since B, or of F) -/
structure Hs (F : List Addr) (B : Hp) (L : List (Addr × HO)) (H : Hp) : Prop where
  fr : ∀ a o, B a = some o → a ∉ F → H a = some o
  al : ∀ a, H a = none → B a = none
  own : ∀ p ∈ L, H p.1 = some p.2
  fs : ∀ p ∈ L, p.1 ∈ F ∨ B p.1 = none
  nd : (L.map (·.1)).Nodup
section
variable {F : List Addr} {B H H' : Hp} {L L' : List (Addr × HO)} {p : Addr} {o o' : HO}
theorem Hs.start (H : Hp) : Hs [] H [] H := ⟨fun _ _ h _ => h, fun _ h => h, fun _ h => (List.not_mem_nil h).elim, fun _ h => (List.not_mem_nil h).elim, List.nodup_nil⟩
theorem Hs.startF (hL : ∀ q ∈ L, H q.1 = some q.2 ∧ q.1 ∈ F) (nd : (L.map (·.1)).Nodup) : Hs F H L H :=
  ⟨fun _ _ h _ => h, fun _ h => h, fun q h => (hL q h).1, fun q h => .inl (hL q h).2, nd⟩
theorem Hs.mem (s : Hs F B L H) (i : Nat) (h : L[i]? = some (p, o)) : H p = some o := s.own (p, o) (List.mem_of_getElem? h)
theorem Hs.frs (s : Hs F B L H) (i : Nat) (h : L[i]? = some (p, o)) (hf : p ∉ F) : B p = none := (s.fs (p, o) (List.mem_of_getElem? h)).resolve_left hf
theorem Hs.new (s : Hs F B L H) (np : H p = none) (o : HO) : Hs F B ((p, o) :: L) (upd H p o) := by
  have ne : ∀ a u, H a = some u → a ≠ p := fun a u e z => by rw [z, np] at e; cases e
  refine ⟨fun a u e hf => ?_, fun a e => ?_, fun q hq => ?_, fun q hq => ?_, ?_⟩
  · have h := s.fr a u e hf
    rw [upd_ne (ne a u h)]; exact h
  · by_cases z : a = p
    · rw [z, upd_same] at e; cases e
    · rw [upd_ne z] at e; exact s.al a e
  · rcases List.mem_cons.mp hq with e | hq
    · rw [e]; exact upd_same
    · have h := s.own q hq
      rw [upd_ne (ne _ _ h)]; exact h
  · rcases List.mem_cons.mp hq with e | hq
    · rw [e]; exact .inr (s.al p np)
    · exact s.fs q hq
  · rw [List.map_cons, List.nodup_cons]
    refine ⟨fun hm => ?_, s.nd⟩
    obtain ⟨q, hq, e⟩ := List.mem_map.mp hm
    exact ne _ _ (s.own q hq) e
theorem map_set_fst (L : List (Addr × HO)) (i : Nat) (h : L[i]? = some (p, o)) (o' : HO) : (L.set i (p, o')).map (·.1) = L.map (·.1) := by
  refine List.ext_getElem? fun j => ?_
  rw [List.getElem?_map, List.getElem?_map]
  by_cases e : i = j
  · subst e
    rw [List.getElem?_set_self (List.getElem?_eq_some_iff.mp h).1, h]
    rfl
  · rw [List.getElem?_set_ne e]
theorem nodup_at {α : Type} {l : List α} (hN : l.Nodup) {i j : Nat} {x : α} (a : l[i]? = some x) (b : l[j]? = some x) : i = j := by
  have ha := (List.getElem?_eq_some_iff.mp a)
  have hb := (List.getElem?_eq_some_iff.mp b)
  exact (List.getElem_inj hN).mp (ha.2.trans hb.2.symm)
theorem Hs.wr (s : Hs F B L H) (i : Nat) (o' : HO) (h : L[i]? = some (p, o)) : Hs F B (L.set i (p, o')) (upd H p o') := by
  have hp := s.mem i h
  refine ⟨fun a u e hf => ?_, fun a e => ?_, fun q hq => ?_, fun q hq => ?_, ?_⟩
  · have z : a ≠ p := fun z => by
      rw [z] at e hf
      rcases s.fs (p, o) (List.mem_of_getElem? h) with y | y
      · exact hf y
      · rw [show (p, o).1 = p from rfl, e] at y; cases y
    rw [upd_ne z]; exact s.fr a u e hf
  · by_cases z : a = p
    · rw [z, upd_same] at e; cases e
    · rw [upd_ne z] at e; exact s.al a e
  · obtain ⟨j, hj⟩ := List.mem_iff_getElem?.mp hq
    by_cases e : i = j
    · subst e
      rw [List.getElem?_set_self (List.getElem?_eq_some_iff.mp h).1] at hj
      cases hj; exact upd_same
    · rw [List.getElem?_set_ne e] at hj
      have z : q.1 ≠ p := fun z => e (nodup_at s.nd (by rw [List.getElem?_map, h]; rfl) (by rw [List.getElem?_map, hj, ← z]; rfl))
      rw [upd_ne z]; exact s.own q (List.mem_of_getElem? hj)
  · have hm : q.1 ∈ (L.set i (p, o')).map (·.1) := List.mem_map.mpr ⟨q, hq, rfl⟩
    rw [map_set_fst L i h] at hm
    obtain ⟨r, hr, e⟩ := List.mem_map.mp hm
    rw [← e]; exact s.fs r hr
  · rw [map_set_fst L i h]; exact s.nd
theorem Hs.ext (s : Hs F B L H) (e : Same H H') : Hs F B L H' :=
  ⟨fun a o h hf => e a o (s.fr a o h hf), fun a h => s.al a (e.free h), fun q hq => e _ _ (s.own q hq), s.fs, s.nd⟩
theorem nin1 {a : Addr} (h1 : H p = some o) (h2 : H a = some o') (ne : o ≠ o') : p ∉ [a] := fun h => by
  rw [List.mem_singleton.mp h, h2] at h1
  exact ne (Option.some.inj h1).symm
theorem cm_l {i j : Int} (h1 : -18446744073709551616 < i) (h2 : i < 18446744073709551616) : CMul i j := .inl ⟨by omega, by omega⟩
theorem cm_r {i j : Int} (h1 : -18446744073709551616 < j) (h2 : j < 18446744073709551616) : CMul i j := .inr ⟨by omega, by omega⟩
theorem Hs.cg (e : L' = L) (s : Hs F B L H) : Hs F B L' H := e ▸ s
theorem Hs.top (s : Hs F B ((p, o) :: L) H) (e : o = o') : Hs F B ((p, o') :: L) H := e ▸ s
theorem Hs.ret (s : Hs F B L H) (e : Same H H') (np : H p = none) (hp : H' p = some o) : Hs F B ((p, o) :: L) H' := by
  refine ⟨fun a o h hf => e a o (s.fr a o h hf), fun a h => s.al a (e.free h), fun q hq => ?_, fun q hq => ?_, ?_⟩
  · rcases List.mem_cons.mp hq with z | hq
    · rw [z]; exact hp
    · exact e _ _ (s.own q hq)
  · rcases List.mem_cons.mp hq with z | hq
    · rw [z]; exact .inr (s.al p np)
    · exact s.fs q hq
  · rw [List.map_cons, List.nodup_cons]
    refine ⟨fun hm => ?_, s.nd⟩
    obtain ⟨q, hq, z⟩ := List.mem_map.mp hm
    have h := s.own q hq
    rw [show q.1 = p from z, np] at h; cases h
theorem Hs.pick (s : Hs F B L H) (is : List Nat) (hn : is.Nodup) (h : is.map (fun i => L[i]?) = L'.map some) : Hs F B L' H := by
  have mem : ∀ q ∈ L', q ∈ L := fun q hq => by
    have : some q ∈ is.map (fun i => L[i]?) := by rw [h]; exact List.mem_map.mpr ⟨q, hq, rfl⟩
    obtain ⟨i, _, e⟩ := List.mem_map.mp this
    exact List.mem_of_getElem? e
  refine ⟨s.fr, s.al, fun q hq => s.own q (mem q hq), fun q hq => s.fs q (mem q hq), ?_⟩
  rw [List.nodup_iff_pairwise_ne, List.pairwise_iff_getElem]
  intro i j hi hj hij e
  rw [List.length_map] at hi hj
  have hl : is.length = L'.length := by have := congrArg List.length h; simpa using this
  have gi : ∀ k (hk : k < L'.length), L[is[k]'(by omega)]? = some L'[k] := fun k hk => by
    have := congrArg (fun l => l[k]?) h
    simp only [List.getElem?_map] at this
    rw [List.getElem?_eq_getElem (show k < is.length by omega), List.getElem?_eq_getElem hk] at this
    exact Option.some.inj this
  rw [List.getElem_map, List.getElem_map] at e
  have e2 : is[i]'(by omega) = is[j]'(by omega) := nodup_at s.nd (by rw [List.getElem?_map, gi i hi]; rfl) (by rw [List.getElem?_map, gi j hj]; exact congrArg some e.symm)
  have := (List.getElem_inj hn).mp e2
  omega
/-- behind a call that keeps all but G's cells; N: what it made or changed; rest: the cells that it left alone -/
theorem Hs.call {G : List Addr} {N R : List (Addr × HO)} (s : Hs F B L H) (r : Hs G H N H') (is : List Nat) (hG : ∀ a ∈ G, a ∈ L.map (·.1)) (hn : is.Nodup) (h : is.map (fun i => L[i]?) = R.map some) (hR : ∀ q ∈ R, q.1 ∉ G) : Hs F B (N ++ R) H' := by
  have sR := s.pick is hn h
  have gL : ∀ a ∈ G, a ∈ F ∨ B a = none := fun a ha => by
    obtain ⟨q, hq, e⟩ := List.mem_map.mp (hG a ha)
    rw [← e]; exact s.fs q hq
  refine ⟨fun a o e hf => ?_, fun a e => s.al a (r.al a e), fun q hq => ?_, fun q hq => ?_, ?_⟩
  · refine r.fr a o (s.fr a o e hf) fun ha => ?_
    rcases gL a ha with z | z
    · exact hf z
    · rw [e] at z; cases z
  · rcases List.mem_append.mp hq with z | z
    · exact r.own q z
    · exact r.fr _ _ (sR.own q z) (hR q z)
  · rcases List.mem_append.mp hq with z | z
    · rcases r.fs q z with y | y
      · exact gL _ y
      · exact .inr (s.al _ y)
    · exact sR.fs q z
  · rw [List.map_append, List.nodup_append]
    refine ⟨r.nd, sR.nd, fun a ha b hb e => ?_⟩
    obtain ⟨q, hq, e1⟩ := List.mem_map.mp ha
    obtain ⟨q2, hq2, e2⟩ := List.mem_map.mp hb
    have e3 : q.1 = q2.1 := by rw [show q.1 = a from e1, show q2.1 = b from e2, e]
    rcases r.fs q hq with y | y
    · exact hR q2 hq2 (e3 ▸ y)
    · have := sR.own q2 hq2
      rw [← e3, y] at this; cases this
theorem Hs.call0 {N : List (Addr × HO)} (s : Hs F B L H) (r : Hs [] H N H') : Hs F B (N ++ L) H' := by
  have e : (List.range L.length).map (fun i => L[i]?) = L.map some := by
    refine List.ext_getElem? fun j => ?_
    rw [List.getElem?_map, List.getElem?_map]
    by_cases h : j < L.length
    · rw [List.getElem?_range h, List.getElem?_eq_getElem h]
      show some L[j]? = some (some L[j])
      rw [List.getElem?_eq_getElem h]
    · rw [List.getElem?_eq_none (by rw [List.length_range]; omega), List.getElem?_eq_none (by omega)]; rfl
  exact s.call r (List.range L.length) (fun _ h => (List.not_mem_nil h).elim) List.nodup_range e fun _ _ => List.not_mem_nil
theorem Hs.ne {q : Addr} (s : Hs F B L H) (i j : Nat) (hi : L[i]? = some (p, o)) (hj : L[j]? = some (q, o')) (h : i ≠ j) : p ≠ q := fun e =>
  h (nodup_at s.nd (by rw [List.getElem?_map, hi]; rfl) (by rw [List.getElem?_map, hj, e]; rfl))
theorem Hs.same (s : Hs [] B L H) : Same B H := fun a o h => s.fr a o h (List.not_mem_nil)
theorem Hs.sq {K : PySem.W.Frag} {a : Addr} {xs : List V} (s : Hs [] B L H) (h : SqL K B a xs) : SqL K H a xs := s.same.seq h
theorem Hs.sqt {K : PySem.W.Frag} {a : Addr} {xs : List V} (s : Hs [] B L H) (h : SqT K B a xs) : SqT K H a xs := by
  rcases h with h | h
  · rcases h with h | ⟨o, h⟩
    · exact .inl (.inl (s.same a _ h))
    · exact .inl (.inr ⟨o, s.same a _ h⟩)
  · exact .inr h
theorem Hs.l {K : PySem.W.Frag} {xs : List V} (s : Hs F B L H) (i : Nat) (h : L[i]? = some (p, .lst xs)) : SqL K H p xs := SqL.of (s.mem i h)
theorem Hs.t {K : PySem.W.Frag} {xs : List V} (s : Hs F B L H) (i : Nat) (h : L[i]? = some (p, .tup xs)) : SqT K H p xs := SqT.of (s.mem i h)
end
/-! ### ints of a list by an index -/
def gi (ns : List Int) (i : Int) : Int := ns.getD i.toNat 0
theorem at_gi {ns : List Int} {i : Int} (h0 : 0 ≤ i) (h1 : i < (ns.length : Int)) : atI (ns.map V.int) i = some (V.int (gi ns i)) := by
  obtain ⟨n, rfl⟩ := Int.eq_ofNat_of_zero_le h0
  refine atI_nat ?_
  have hn : n < ns.length := by omega
  rw [List.getElem?_map, List.getElem?_eq_getElem hn]
  show some (V.int ns[n]) = some (V.int (ns.getD n 0))
  rw [List.getD_eq_getElem?_getD, List.getElem?_eq_getElem hn]; rfl
theorem gi_mem {ns : List Int} {i : Int} (h0 : 0 ≤ i) (h1 : i < (ns.length : Int)) : gi ns i ∈ ns := by
  obtain ⟨n, rfl⟩ := Int.eq_ofNat_of_zero_le h0
  have hn : n < ns.length := by omega
  show ns.getD n 0 ∈ ns
  rw [List.getD_eq_getElem?_getD, List.getElem?_eq_getElem hn]
  exact List.getElem_mem hn
/-! ### values and tests -/
def Val (te : TE) (σ : L2.St) (H : Hp) (v : V) : Prop := ∀ Q : VK, Q v H → te σ H Q
def VA (ta : TA) (σ : L2.St) (H : Hp) (vs : List V) : Prop := ∀ Q : List V → Hp → Prop, Q vs H → ta σ H Q
def Ans (t : TT) (σ : L2.St) (H : Hp) (p : Prop) [Decidable p] : Prop := ∀ Q : Bool → Hp → Prop, Q (decide p) H → t σ H Q
section
variable {K : PySem.W.Frag} {σ σ' : L2.St} {H : Hp} {ta tb te tc : TE} {t u : TT} {x y z v w : V} {r : R2} {i j : Int}
theorem vv (n : Nat) (h : σ[n]? = some (some v)) : Val (tVar n) σ H v := fun _ q => ⟨v, h, q⟩
theorem vc : Val (tC v) σ H v := fun _ q => q
theorem vis (h : Val te σ H v) (e : v = w) : Val te σ H w := e ▸ h
theorem v0 {g : Int → Int → V} (ha : Val ta σ H (.int i)) (hb : Val tb σ H (.int j)) : Val (tOp (rI0 g) ta tb) σ H (g i j) := fun Q q => ha _ (hb _ ⟨i, j, rfl, rfl, q⟩)
theorem v1 {C : Int → Int → Prop} {g : Int → Int → V} (hc : C i j) (ha : Val ta σ H (.int i)) (hb : Val tb σ H (.int j)) : Val (tOp (rI C g) ta tb) σ H (g i j) := fun Q q => ha _ (hb _ ⟨i, j, rfl, rfl, hc, q⟩)
theorem vun {g : Int → V} (ha : Val ta σ H (.int i)) : Val (tUn (rU g) ta) σ H (g i) := fun Q q => ha _ ⟨i, rfl, q⟩
abbrev rInt1 : List V → Hp → VK → Prop := fun xs H Q => (∃ i, xs = [.int i] ∧ Q (.int i) H) ∨ ∃ k, xs = [.bl k] ∧ Q (.int (if k then 1 else 0)) H
theorem vint (ha : Val ta σ H (.int i)) : Val (tCB rInt1 (tCons ta tNil)) σ H (.int i) := fun Q q => ha _ (.inl ⟨i, rfl, q⟩)
theorem vintb {b : Bool} (ha : Val ta σ H (.bl b)) : Val (tCB rInt1 (tCons ta tNil)) σ H (.int (if b then 1 else 0)) := fun Q q => ha _ (.inr ⟨b, rfl, q⟩)
theorem vixL {p : Addr} {xs : List V} (ha : Val ta σ H (.ref p)) (hb : Val tb σ H (.int i)) (hs : SqL K H p xs) (h : atI xs i = some v) : Val (tOp (rIxL K) ta tb) σ H v := fun Q q => ha _ (hb _ ⟨p, xs, i, v, rfl, rfl, hs, h, q⟩)
theorem vixT {p : Addr} {xs : List V} (ha : Val ta σ H (.ref p)) (hb : Val tb σ H (.int i)) (hs : SqT K H p xs) (h : atI xs i = some v) : Val (tOp (rIxT K) ta tb) σ H v := fun Q q => ha _ (hb _ ⟨p, xs, i, v, rfl, rfl, hs, h, q⟩)
abbrev rLenS (K : PySem.W.Frag) : List V → Hp → VK → Prop := fun xs H Q => ∃ p ys, xs = [.ref p] ∧ (SqL K H p ys ∨ SqT K H p ys) ∧ Q (.int ys.length) H
theorem vlenL {p : Addr} {xs : List V} (ha : Val ta σ H (.ref p)) (hs : SqL K H p xs) : Val (tCB (rLenS K) (tCons ta tNil)) σ H (.int xs.length) := fun Q q => ha _ ⟨p, xs, rfl, .inl hs, q⟩
theorem vlenT {p : Addr} {xs : List V} (ha : Val ta σ H (.ref p)) (hs : SqT K H p xs) : Val (tCB (rLenS K) (tCons ta tNil)) σ H (.int xs.length) := fun Q q => ha _ ⟨p, xs, rfl, .inr hs, q⟩
theorem vfld {a C dx : Addr} {fs : List (Str × V)} {f : Str} (h : Val ta σ H (.ref a)) (ho : H a = some (.ins C dx fs)) (hc : Cls K C) (hn : NoAttr K C f) (hl : fs.lookup f = some v) : Val (tFld K ta f) σ H v := fun Q q => h _ ⟨a, C, dx, fs, v, rfl, ho, hc, hn, hl, q⟩
theorem vif {p : Prop} [Decidable p] (h : Ans t σ H p) (h1 : p → Val ta σ H v) (h2 : ¬ p → Val tb σ H v) : Val (tIf t ta tb) σ H v := fun Q q => h _ (by
  by_cases hp : p
  · rw [decide_eq_true hp]; exact h1 hp Q q
  · rw [decide_eq_false hp]; exact h2 hp Q q)
theorem vtest {p : Prop} [Decidable p] (h : Val te σ H (.bl (decide p))) : Ans (tTest te) σ H p := fun Q q => h _ ⟨_, rfl, q⟩
theorem vB {p : Prop} [Decidable p] (h : Val te σ H (.bl (decide p))) : Ans (tB te) σ H p := fun Q q => h _ ⟨_, rfl, q⟩
theorem vbool {b : Bool} (h : Val te σ H (.bl b)) : Val te σ H (.bl (decide (b = true))) := by
  rw [show decide (b = true) = b from by cases b <;> rfl]; exact h
theorem dec_eq_V {α : Type} [DecidableEq α] (f : α → V) (hf : ∀ a b, f a = f b → a = b) (a b : α) : decide (f a = f b) = decide (a = b) := by
  by_cases h : a = b
  · rw [decide_eq_true h, decide_eq_true (congrArg f h)]
  · rw [decide_eq_false h, decide_eq_false (fun e => h (hf _ _ e))]
theorem dec_not (p : Prop) [Decidable p] : (!decide p) = decide (¬ p) := by
  by_cases h : p
  · rw [decide_eq_true h, decide_eq_false (not_not_intro h)]; rfl
  · rw [decide_eq_false h, decide_eq_true h]; rfl
theorem veq (ha : Val ta σ H (.int i)) (hb : Val tb σ H (.int j)) : Val (tOp rEq ta tb) σ H (.bl (decide (i = j))) := fun Q q => ha _ (hb _ ⟨rfl, by rw [dec_eq_V V.int (fun _ _ e => V.int.inj e)]; exact q⟩)
theorem vne (ha : Val ta σ H (.int i)) (hb : Val tb σ H (.int j)) : Val (tOp rNe ta tb) σ H (.bl (decide (i ≠ j))) := fun Q q => ha _ (hb _ ⟨rfl, by rw [dec_eq_V V.int (fun _ _ e => V.int.inj e), dec_not]; exact q⟩)
theorem veqb {a b : Bool} (ha : Val ta σ H (.bl a)) (hb : Val tb σ H (.bl b)) : Val (tOp rEq ta tb) σ H (.bl (decide (a = b))) := fun Q q => ha _ (hb _ ⟨rfl, by rw [dec_eq_V V.bl (fun _ _ e => V.bl.inj e)]; exact q⟩)
theorem vneb {a b : Bool} (ha : Val ta σ H (.bl a)) (hb : Val tb σ H (.bl b)) : Val (tOp rNe ta tb) σ H (.bl (decide (a ≠ b))) := fun Q q => ha _ (hb _ ⟨rfl, by rw [dec_eq_V V.bl (fun _ _ e => V.bl.inj e), dec_not]; exact q⟩)
theorem veqs {a b : Str} (ha : Val ta σ H (.str a)) (hb : Val tb σ H (.str b)) : Val (tOp rEq ta tb) σ H (.bl (decide (a = b))) := fun Q q => ha _ (hb _ ⟨rfl, by rw [dec_eq_V V.str (fun _ _ e => V.str.inj e)]; exact q⟩)
theorem vnes {a b : Str} (ha : Val ta σ H (.str a)) (hb : Val tb σ H (.str b)) : Val (tOp rNe ta tb) σ H (.bl (decide (a ≠ b))) := fun Q q => ha _ (hb _ ⟨rfl, by rw [dec_eq_V V.str (fun _ _ e => V.str.inj e), dec_not]; exact q⟩)
theorem veqv (hs : scal x y = true) (ha : Val ta σ H x) (hb : Val tb σ H y) : Val (tOp rEq ta tb) σ H (.bl (decide (x = y))) := fun Q q => ha _ (hb _ ⟨hs, q⟩)
theorem vnev (hs : scal x y = true) (ha : Val ta σ H x) (hb : Val tb σ H y) : Val (tOp rNe ta tb) σ H (.bl (decide (x ≠ y))) := fun Q q => ha _ (hb _ ⟨hs, by rw [dec_not]; exact q⟩)
abbrev rIsN : R2 := fun x y H Q => y = .non ∧ Q (.bl (decide (x = .non))) H
abbrev rNotN : R2 := fun x y H Q => y = .non ∧ Q (.bl (!decide (x = .non))) H
theorem visN (ha : Val ta σ H x) : Val (tOp rIsN ta (tC .non)) σ H (.bl (decide (x = .non))) := fun Q q => ha _ ⟨rfl, q⟩
theorem vnotN (ha : Val ta σ H x) : Val (tOp rNotN ta (tC .non)) σ H (.bl (decide (x ≠ .non))) := fun Q q => ha _ ⟨rfl, by rw [dec_not]; exact q⟩
theorem aand {p q : Prop} [Decidable p] [Decidable q] (h1 : Ans t σ H p) (h2 : p → Ans u σ H q) : Ans (tAnd t u) σ H (p ∧ q) := fun Q k => h1 _ (by
  by_cases hp : p
  · rw [decide_eq_true hp]
    refine h2 hp Q ?_
    rw [show decide q = decide (p ∧ q) from by simp [hp]]; exact k
  · rw [decide_eq_false hp]
    rw [show decide (p ∧ q) = false from by simp [hp]] at k; exact k)
theorem aor {p q : Prop} [Decidable p] [Decidable q] (h1 : Ans t σ H p) (h2 : ¬ p → Ans u σ H q) : Ans (tOr t u) σ H (p ∨ q) := fun Q k => h1 _ (by
  by_cases hp : p
  · rw [decide_eq_true hp]
    rw [show decide (p ∨ q) = true from by simp [hp]] at k; exact k
  · rw [decide_eq_false hp]
    refine h2 hp Q ?_
    rw [show decide q = decide (p ∨ q) from by simp [hp]]; exact k)
theorem anot {p : Prop} [Decidable p] (h : Ans t σ H p) : Ans (tNot t) σ H (¬ p) := fun Q k => h _ (by rw [dec_not]; exact k)
theorem ais {p q : Prop} [Decidable p] [Decidable q] (h : Ans t σ H p) (e : p ↔ q) : Ans t σ H q := fun Q k => h Q (by rw [show decide p = decide q from by simp [e]]; exact k)
theorem vchain {p q : Prop} [Decidable p] [Decidable q] {r' : R2} (ha : Val ta σ H x) (hb : Val tb σ H y) (hc : Val tc σ H z) (h1 : ∀ Q : VK, Q (.bl (decide p)) H → r x y H Q) (h2 : ∀ Q : VK, Q (.bl (decide q)) H → r' y z H Q) :
    Val (tChain r r' ta tb tc) σ H (.bl (decide (p ∧ q))) := fun Q k => ha _ (hb _ (h1 _ ⟨_, rfl, by
  by_cases hp : p
  · rw [decide_eq_true hp]
    refine hc _ (h2 Q ?_)
    rw [show decide q = decide (p ∧ q) from by simp [hp]]; exact k
  · rw [decide_eq_false hp]
    rw [show decide (p ∧ q) = false from by simp [hp]] at k; exact k⟩))
theorem r0 {g : Int → Int → V} : ∀ Q : VK, Q (g i j) H → rI0 g (.int i) (.int j) H Q := fun _ q => ⟨i, j, rfl, rfl, q⟩
theorem va0 : VA tNil σ H [] := fun _ q => q
theorem va {tr : TA} {vs : List V} (h : Val ta σ H x) (hr : VA tr σ H vs) : VA (tCons ta tr) σ H (x :: vs) := fun _ q => h _ (hr _ q)
theorem vcall {sp : Sp} {dvs vs : List V} {E : XK} {tr : TA} (ha : VA tr σ H vs) (k : ∀ Q : VK, Q v H → sp (vs ++ dvs) H Q E) : Val (tCall sp dvs E tr) σ H v := fun Q q => ha _ (k Q q)
theorem c_call {sp : Sp} {dvs vs : List V} {E : XK} {tr : TA} {Q : VK} (ha : VA tr σ H vs) (k : sp (vs ++ dvs) H Q E) : tCall sp dvs E tr σ H Q := ha _ k
abbrev rIsiK (K : PySem.W.Frag) := rIsi K
theorem visi {c : V} {cu tu : Value} {b : Bool} (ha : Val ta σ H x) (hb : Val tb σ H c) (hc : ClsV c cu) (hx : TyX K H x tu) (hk : PySem.W.kitOne K tu cu = some b) : Val (tCB (rIsi K) (tCons ta (tCons tb tNil))) σ H (.bl b) := fun Q q => ha _ (hb _ ⟨x, c, tu, cu, b, rfl, hc, hx, hk, q⟩)
/-! ### statements -/
variable {D : Ends} {tz tu tw : TS}
theorem s_set {n : Nat} (σ' : L2.St) (h : Val te σ H v) (e : σ.set n (some v) = σ') (k : tz D σ' H) : tSeq (tAsg te (gName n)) tz D σ H := h _ (by
  show tz D (σ.set n (some v)) H
  rw [e]; exact k)
def kSet (tz : TS) (D : Ends) (σ : L2.St) (n : Nat) : VK := fun v H1 => tz D (σ.set n (some v)) H1
def kDrop (tz : TS) (D : Ends) (σ : L2.St) : VK := fun _ H1 => tz D σ H1
theorem c_set {n : Nat} (k : te σ H (kSet tz D σ n)) : tSeq (tAsg te (gName n)) tz D σ H := k
theorem k_set {n : Nat} (σ' : L2.St) (e : σ.set n (some v) = σ') (k : tz D σ' H) : kSet tz D σ n v H := by
  show tz D (σ.set n (some v)) H
  rw [e]; exact k
theorem k_setv {n : Nat} (w : V) (e : v = w) (k : kSet tz D σ n w H) : kSet tz D σ n v H := e ▸ k
theorem k_drop (k : tz D σ H) : kDrop tz D σ v H := k
theorem c_setv {n : Nat} (w : V) (e : v = w) (k : tz D (σ.set n (some w)) H) : tz D (σ.set n (some v)) H := e ▸ k
theorem c_sig (σ' : L2.St) (e : σ = σ') (k : tz D σ' H) : tz D σ H := e ▸ k
theorem c_op {r : R2} {Q : VK} (k : ta σ H fun x H1 => tb σ H1 fun y H2 => r x y H2 Q) : tOp r ta tb σ H Q := k
theorem s_ret (h : Val te σ H v) (k : D.rt v H) : tSeq (tRet te) tz D σ H := h _ k
theorem c_ret (k : te σ H D.rt) : tSeq (tRet te) tz D σ H := k
theorem s_drop (h : Val te σ H v) (k : tz D σ H) : tSeq (tDrop te) tz D σ H := h _ k
theorem c_drop (k : te σ H (kDrop tz D σ)) : tSeq (tDrop te) tz D σ H := k
theorem s_nx (k : D.nx σ H) : tNext D σ H := k
theorem s_nxu {N C Z : L2.St → Hp → Prop} (k : N σ H) : tNext { D with nx := N, ct := C, bk := Z } σ H := k
theorem s_nxs (k : tz D σ H) : tNext { D with nx := tz D } σ H := k
theorem s_if {p : Prop} [Decidable p] (h : Ans t σ H p) (h1 : p → tu { D with nx := tz D } σ H) (h2 : ¬ p → tw { D with nx := tz D } σ H) : tSeq (tIfS t tu tw) tz D σ H := h _ (by
  by_cases hp : p
  · rw [decide_eq_true hp]; exact h1 hp
  · rw [decide_eq_false hp]; exact h2 hp)
theorem s_ifM {p : Prop} [Decidable p] (M : L2.St → Hp → Prop) (h : Ans t σ H p) (h1 : p → tu { D with nx := M } σ H) (h2 : ¬ p → tw { D with nx := M } σ H) (hM : ∀ s G, M s G → tz D s G)
    (mono : ∀ (N : L2.St → Hp → Prop), (∀ s G, M s G → N s G) → (tu { D with nx := M } σ H → tu { D with nx := N } σ H) ∧ (tw { D with nx := M } σ H → tw { D with nx := N } σ H)) : tSeq (tIfS t tu tw) tz D σ H := h _ (by
  by_cases hp : p
  · rw [decide_eq_true hp]; exact (mono _ hM).1 (h1 hp)
  · rw [decide_eq_false hp]; exact (mono _ hM).2 (h2 hp))
/-- if c: x = e (no else): the value behind it -/
theorem s_ifset {p : Prop} [Decidable p] {n : Nat} (σ' : L2.St) (v : V) (h : Ans t σ H p) (h1 : p → Val te σ H v) (e : σ.set n (some v) = σ') (h2 : ¬ p → σ = σ') (k : tz D σ' H) : tSeq (tIfS t (tSeq (tAsg te (gName n)) tNext) tNext) tz D σ H :=
  s_if h (fun hp => s_set σ' (h1 hp) e k) (fun hp => by rw [h2 hp]; exact k)
theorem s_aug {n : Nat} (σ' : L2.St) {g : Int → Int → Int} (hx : σ[n]? = some (some (.int i))) (h : Val te σ H (.int j)) (e : σ.set n (some (.int (g i j))) = σ') (k : tz D σ' H) : tSeq (tAug n te (ipI g)) tz D σ H :=
  ⟨.int i, hx, h _ ⟨i, j, rfl, rfl, by
    show tz D (σ.set n (some (.int (g i j)))) H
    rw [e]; exact k⟩⟩
theorem s_forL {a : Addr} {xs : List V} {n : Nat} (h : Val te σ H (.ref a)) (hx : SqL K H a xs) (Pv : Nat → L2.St → Hp → Prop) (h0 : Pv 0 σ H) (hl : ∀ i σ' H', i ≤ xs.length → Pv i σ' H' → SqL K H' a xs)
    (hs : ∀ i x σ' H', xs[i]? = some x → Pv i σ' H' → tu { D with nx := Pv (i + 1), ct := Pv (i + 1), bk := tz D } (σ'.set n (some x)) H') (hd : ∀ σ' H', Pv xs.length σ' H' → tz D σ' H') : tSeq (tFor (iList K te) (gName n) tu) tz D σ H :=
  h _ ⟨a, rfl, ⟨xs, hx⟩, for_list Pv h0 hl hs hd⟩
theorem s_forT {a : Addr} {xs : List V} {n : Nat} (h : Val te σ H (.ref a)) (hx : SqT K H a xs) (Pv : Nat → L2.St → Hp → Prop) (h0 : Pv 0 σ H) (hl : ∀ i σ' H', i ≤ xs.length → Pv i σ' H' → SqT K H' a xs)
    (hs : ∀ i x σ' H', xs[i]? = some x → Pv i σ' H' → tu { D with nx := Pv (i + 1), ct := Pv (i + 1), bk := tz D } (σ'.set n (some x)) H') (hd : ∀ σ' H', Pv xs.length σ' H' → tz D σ' H') : tSeq (tFor (iTup K te) (gName n) tu) tz D σ H :=
  h _ ⟨a, rfl, ⟨xs, hx⟩, for_tup Pv h0 hl hs hd⟩
theorem s_forR1 {tr : TA} {n : Nat} {m : Int} (h : VA tr σ H [.int m]) (hm : -(2 ^ 62) ≤ m ∧ m < 2 ^ 62) (Pv : Nat → L2.St → Hp → Prop) (h0 : Pv 0 σ H)
    (hs : ∀ (i : Nat) σ' H', (i : Int) < m → Pv i σ' H' → tu { D with nx := Pv (i + 1), ct := Pv (i + 1), bk := tz D } (σ'.set n (some (.int (i : Int)))) H') (hd : ∀ σ' H', Pv m.toNat σ' H' → tz D σ' H') : tSeq (tFor (iRng1 tr) (gName n) tu) tz D σ H :=
  h _ ⟨m, rfl, hm.1, hm.2, for_range (lo := 0) (n := m.toNat) Pv h0 (fun i σ' H' hi p => by
    show tu { D with nx := Pv (i + 1), ct := Pv (i + 1), bk := tz D } (σ'.set n (some (.int ((0 : Int) + (i : Int))))) H'
    rw [Int.zero_add]
    exact hs i σ' H' (by omega) p) hd⟩
theorem s_forR2 {tr : TA} {n : Nat} {lo m : Int} (h : VA tr σ H [.int lo, .int m]) (hm : -(2 ^ 62) ≤ lo ∧ lo < 2 ^ 62 ∧ -(2 ^ 62) ≤ m ∧ m < 2 ^ 62) (Pv : Nat → L2.St → Hp → Prop) (h0 : Pv 0 σ H)
    (hs : ∀ (i : Nat) σ' H', lo + (i : Int) < m → Pv i σ' H' → tu { D with nx := Pv (i + 1), ct := Pv (i + 1), bk := tz D } (σ'.set n (some (.int (lo + (i : Int))))) H') (hd : ∀ σ' H', Pv (m - lo).toNat σ' H' → tz D σ' H') : tSeq (tFor (iRng2 tr) (gName n) tu) tz D σ H :=
  h _ ⟨lo, m, rfl, hm, for_range (lo := lo) (n := (m - lo).toNat) Pv h0 (fun i σ' H' hi p => hs i σ' H' (by omega) p) hd⟩
end
/-- a promise's two ends -/
def sz1 {n : Nat} (h : n ≤ 1000000) : n ≤ sizeLine := Nat.le_trans h (by decide)
def sz2 {n : Nat} (h : n < 1000000) : n < sizeLine := Nat.lt_of_lt_of_le h (by decide)
section
variable {K : PySem.W.Frag} {σ σ' : L2.St} {H : Hp} {ta tb te tc : TE} {D : Ends} {tz : TS} {v : V}
theorem c_callx {sp : Sp} {dvs : List V} {E : XK} {t : TA} {Q : VK} (k : t σ H fun vs H1 => sp (vs ++ dvs) H1 Q E) : tCall sp dvs E t σ H Q := k
theorem c_cons {tr : TA} {Q : List V → Hp → Prop} (k : ta σ H fun x H1 => tr σ H1 fun xs H2 => Q (x :: xs) H2) : tCons ta tr σ H Q := k
theorem c_nil {Q : List V → Hp → Prop} (k : Q [] H) : tNil σ H Q := k
theorem c_lst {t : TA} {Q : VK} (k : t σ H fun xs H1 => xs.length ≤ sizeLine ∧ ∀ p, H1 p = none → Q (.ref p) (upd H1 p (.lst xs))) : tLst t σ H Q := k
theorem c_tup {t : TA} {Q : VK} (k : t σ H fun xs H1 => xs.length ≤ sizeLine ∧ ∀ p, H1 p = none → Q (.ref p) (upd H1 p (.tup xs))) : tTup t σ H Q := k
theorem c_cb {r : List V → Hp → VK → Prop} {t : TA} {Q : VK} (k : t σ H fun vs H1 => r vs H1 Q) : tCB r t σ H Q := k
theorem c_asg {g : TG} (k : te σ H fun v H1 => g v σ H1 (tz D)) : tSeq (tAsg te g) tz D σ H := k
theorem c_test {Q : Bool → Hp → Prop} (k : te σ H fun x H' => ∃ b, x = .bl b ∧ Q b H') : tTest te σ H Q := k
theorem s_appI {l : Addr} {xs : List Int} {n : Int} (hl : H l = some (.lst (xs.map V.int))) (ha : Val ta σ H (.ref l)) (h : Val te σ H (.int n)) (hz : xs.length < 1000000) (k : tz D σ (upd H l (.lst ((xs ++ [n]).map V.int)))) :
    tSeq (tDrop (tBM K "list" rAppend ta (tCons te tNil))) tz D σ H := ha _ ⟨Or.inl ⟨rfl, xs.map V.int, SqL.of hl⟩, h _ ⟨l, xs.map V.int, .int n, rfl, rfl, hl, by rw [List.length_map]; exact sz2 hz, by
      show tz D σ (upd H l (.lst (xs.map V.int ++ [V.int n])))
      rw [List.map_append] at k; exact k⟩⟩
theorem s_app {l : Addr} {xs : List V} (hl : H l = some (.lst xs)) (ha : Val ta σ H (.ref l)) (h : Val te σ H v) (hz : xs.length < 1000000) (k : tz D σ (upd H l (.lst (xs ++ [v])))) :
    tSeq (tDrop (tBM K "list" rAppend ta (tCons te tNil))) tz D σ H := ha _ ⟨Or.inl ⟨rfl, xs, SqL.of hl⟩, h _ ⟨l, xs, v, rfl, rfl, hl, sz2 hz, k⟩⟩
theorem ix_nat {n : Nat} {i : Int} (h0 : 0 ≤ i) (h1 : i < (n : Int)) : ixN n i = some i.toNat := by
  unfold ixN
  rw [if_pos h0, if_pos h1]
theorem map_seti (xs : List Int) (j : Nat) (n : Int) : (xs.map V.int).set j (.int n) = (xs.set j n).map V.int := by rw [List.map_set]
theorem s_setI {l : Addr} {xs : List Int} {i n : Int} (hl : H l = some (.lst (xs.map V.int))) (h : Val te σ H (.int n)) (ha : Val ta σ H (.ref l)) (hb : Val tb σ H (.int i)) (h0 : 0 ≤ i) (h1 : i < (xs.length : Int)) (k : tz D σ (upd H l (.lst ((xs.set i.toNat n).map V.int)))) :
    tSeq (tAsg te (gSub ta tb rSetL)) tz D σ H := h _ (ha _ (hb _ ⟨l, xs.map V.int, i, i.toNat, rfl, rfl, hl, ix_nat h0 (by rw [List.length_map]; exact h1), by
      rw [map_seti]; exact k⟩))
theorem s_setL {l : Addr} {xs : List V} {i : Int} (hl : H l = some (.lst xs)) (h : Val te σ H v) (ha : Val ta σ H (.ref l)) (hb : Val tb σ H (.int i)) (h0 : 0 ≤ i) (h1 : i < (xs.length : Int)) (k : tz D σ (upd H l (.lst (xs.set i.toNat v)))) :
    tSeq (tAsg te (gSub ta tb rSetL)) tz D σ H := h _ (ha _ (hb _ ⟨l, xs, i, i.toNat, rfl, rfl, hl, ix_nat h0 h1, k⟩))
end
section
variable {K : PySem.W.Frag} {σ σ' : L2.St} {H : Hp} {ta tb te tc : TE} {t u : TT} {D : Ends} {tz tu tw : TS} {v w : V} {p q : Prop} [Decidable p] [Decidable q]
theorem fin {Q : VK} (k : Q v H) (e : w = v) : Q w H := e ▸ k
theorem map_int_get {xs : List Int} {i : Nat} {x : V} (h : (xs.map V.int)[i]? = some x) : ∃ n, x = V.int n ∧ xs[i]? = some n := by
  rw [List.getElem?_map] at h
  cases e : xs[i]? with
  | none => rw [e] at h; cases h
  | some n => rw [e] at h; exact ⟨n, (Option.some.inj h).symm, rfl⟩
theorem c_ifS (k : t σ H fun b H1 => if b = true then tu { D with nx := tz D } σ H1 else tw { D with nx := tz D } σ H1) : tSeq (tIfS t tu tw) tz D σ H := k
theorem c_ite {A B : Prop} (h1 : p → A) (h2 : ¬ p → B) : if decide p = true then A else B := by
  by_cases hp : p
  · rw [decide_eq_true hp]; exact h1 hp
  · rw [decide_eq_false hp]; exact h2 hp
theorem c_iteB {b : Bool} {A B : Prop} (h1 : b = true → A) (h2 : ¬ b = true → B) : if b = true then A else B := ite2 h1 h2
theorem c_make {C : Addr} {sp : Sp} {dvs : List V} {E : XK} {tr : TA} {Q : VK} (k : tr σ H fun vs H1 => ∀ x dx, H1 x = none → H1 dx = none → dx ≠ x →
  sp (.ref x :: (vs ++ dvs)) (upd (upd H1 dx (.own x)) x (.ins C dx [])) (fun v H2 => v = .non ∧ Q (.ref x) H2) E) : tMake C sp dvs E tr σ H Q := k
theorem upd_none {x dx : Addr} {o : HO} (h : H x = none) (ne : dx ≠ x) : upd H dx o x = none := by rw [upd_ne (Ne.symm ne)]; exact h
theorem Hs.start1 {x : Addr} {o : HO} (h : H x = some o) : Hs [x] H [(x, o)] H :=
  Hs.startF (fun q hq => by rw [List.mem_singleton.mp hq]; exact ⟨h, List.mem_singleton.mpr rfl⟩) (by simp)
theorem Hs.sep {F : List Addr} {B : Hp} {L R : List (Addr × HO)} (s : Hs F B L H) (is js : List Nat) {G : List Addr} (hd : ∀ i ∈ is, ∀ j ∈ js, i ≠ j) (h : is.map (fun i => L[i]?) = R.map some) (hg : js.map (fun j => (L[j]?).map (·.1)) = G.map some) : ∀ q ∈ R, q.1 ∉ G := fun q hq hm => by
  have h1 : some q ∈ is.map (fun i => L[i]?) := by rw [h]; exact List.mem_map.mpr ⟨q, hq, rfl⟩
  obtain ⟨i, hi, e1⟩ := List.mem_map.mp h1
  have h2 : some q.1 ∈ js.map (fun j => (L[j]?).map (·.1)) := by rw [hg]; exact List.mem_map.mpr ⟨q.1, hm, rfl⟩
  obtain ⟨j, hj, e2⟩ := List.mem_map.mp h2
  refine hd i hi j hj (nodup_at s.nd (x := q.1) ?_ ?_)
  · rw [List.getElem?_map]
    have e1' : L[i]? = some q := e1
    rw [e1']; rfl
  · rw [List.getElem?_map]; exact e2
theorem s_fld {a C dx : Addr} {f : Str} {fs : List (Str × V)} (fs' : List (Str × V)) (hv : Val tb σ H v) (ha : Val ta σ H (.ref a)) (ho : H a = some (.ins C dx fs)) (hc : Cls K C) (hn : NoAttr K C f) (hl : fs.length < 1000) (e : putF f v fs = fs')
    (k : tz D σ (upd H a (.ins C dx fs'))) : tSeq (sFld K ta tb f) tz D σ H := hv _ (ha _ ⟨a, C, dx, fs, rfl, ho, hc, hn, hl, by
      show tz D σ (upd H a (.ins C dx (putF f v fs)))
      rw [e]; exact k⟩)
theorem rep_one (n : Nat) (v : V) : (List.replicate n [v]).flatten = List.replicate n v := by
  induction n with
  | zero => rfl
  | succ n ih => rw [List.replicate_succ, List.flatten_cons, ih]; rfl
theorem dp_ints : ∀ ns : List Int, DpAll K H (ns.map V.int) (ns.map PyData.int)
  | [] => .nil
  | n :: r => .cons (.int n) (dp_ints r)
theorem lay_ints : ∀ ns : List Int, PyData.canLayAll0 (ns.map PyData.int) = true
  | [] => rfl
  | _ :: r => lay_ints r
theorem dep_ints : ∀ ns : List Int, PyData.depthAll (ns.map PyData.int) ≤ 1
  | [] => by decide
  | _ :: r => by
    have := dep_ints r
    show max _ (PyData.depthAll (r.map PyData.int)) ≤ 1
    exact Nat.max_le.mpr ⟨Nat.zero_le _, this⟩
theorem dep_ints0 : ∀ ns : List Int, PyData.depthAll (ns.map PyData.int) = 0
  | [] => rfl
  | _ :: r => by
    show max 0 (PyData.depthAll (r.map PyData.int)) = 0
    rw [dep_ints0 r]; rfl
theorem shp_ints (ns : List Int) : SeqAt.shaped (.list (ns.map PyData.int)) = true := by
  unfold SeqAt.shaped
  refine Bool.and_eq_true_iff.mpr ⟨lay_ints ns, decide_eq_true ?_⟩
  have := dep_ints ns
  show _ ≤ 64
  simp only [PyData.depth]
  omega
theorem vand (ha : Val ta σ H (.bl (decide p))) (hb : p → Val tb σ H (.bl (decide q))) : Val (tAndV ta tb) σ H (.bl (decide (p ∧ q))) := fun Q k => ha _ ⟨_, rfl, by
  by_cases hp : p
  · rw [decide_eq_true hp]
    refine hb hp Q ?_
    rw [show decide q = decide (p ∧ q) from by simp [hp]]; exact k
  · rw [decide_eq_false hp]
    rw [show decide (p ∧ q) = false from by simp [hp]] at k; exact k⟩
theorem vor (ha : Val ta σ H (.bl (decide p))) (hb : ¬ p → Val tb σ H (.bl (decide q))) : Val (tOrV ta tb) σ H (.bl (decide (p ∨ q))) := fun Q k => ha _ ⟨_, rfl, by
  by_cases hp : p
  · rw [decide_eq_true hp]
    rw [show decide (p ∨ q) = true from by simp [hp]] at k; exact k
  · rw [decide_eq_false hp]
    refine hb hp Q ?_
    rw [show decide q = decide (p ∨ q) from by simp [hp]]; exact k⟩
theorem vnot (ha : Val ta σ H (.bl (decide p))) : Val (tNotV ta) σ H (.bl (decide (¬ p))) := fun Q k => ha _ ⟨_, rfl, by rw [dec_not]; exact k⟩
/-! loops turn by turn -/
def Unr (tu : TS) (D : Ends) (tz : TS) (j : Nat) : Nat → Nat → L2.St → Hp → Prop
  | 0, _, σ, H => tz D σ H
  | m + 1, i, σ, H => tu { D with nx := Unr tu D tz j m (i + 1), ct := Unr tu D tz j m (i + 1), bk := tz D } (σ.set j (some (.int (i : Int)))) H
theorem s_unrR1 {tr : TA} {n m : Nat} (h : VA tr σ H [.int (m : Int)]) (hm : m < 1000) (k : Unr tu D tz n m 0 σ H) : tSeq (tFor (iRng1 tr) (gName n) tu) tz D σ H :=
  s_forR1 h ⟨by omega, by omega⟩ (fun i σ H => Unr tu D tz n (m - i) i σ H) (by exact k) (fun i σ' H' hi p => by
    have e : m - i = (m - (i + 1)) + 1 := by omega
    rw [e] at p
    exact p) (fun σ' H' p => by
    rw [show m - (m : Int).toNat = 0 by omega] at p
    exact p)
theorem u_done {j i : Nat} (k : tz D σ H) : Unr tu D tz j 0 i σ H := k
theorem u_next {j m i : Nat} (k : tu { D with nx := Unr tu D tz j m (i + 1), ct := Unr tu D tz j m (i + 1), bk := tz D } (σ.set j (some (.int (i : Int)))) H) : Unr tu D tz j (m + 1) i σ H := k
theorem visb {a b : Bool} (ha : Val ta σ H (.bl a)) (hb : Val tb σ H (.bl b)) : Val (tOp rIsB ta tb) σ H (.bl (decide (a = b))) := fun Q q => ha _ (hb _ ⟨a, b, rfl, rfl, q⟩)
theorem vnotb {a b : Bool} (ha : Val ta σ H (.bl a)) (hb : Val tb σ H (.bl b)) : Val (tOp rNotB ta tb) σ H (.bl (decide (a ≠ b))) := fun Q q => ha _ (hb _ ⟨a, b, rfl, rfl, by rw [dec_not]; exact q⟩)
theorem Hs.tl {F : List Addr} {B : Hp} {L : List (Addr × HO)} {x : Addr × HO} (s : Hs F B (x :: L) H) : Hs F B L H :=
  ⟨s.fr, s.al, fun q h => s.own q (List.mem_cons_of_mem _ h), fun q h => s.fs q (List.mem_cons_of_mem _ h), (List.nodup_cons.mp s.nd).2⟩
theorem range_map_snoc (f : Nat → Int) (i : Nat) : (((List.range (i + 1)).map f).map V.int) = (((List.range i).map f).map V.int) ++ [V.int (f i)] := by
  rw [List.range_succ, List.map_append, List.map_append]; rfl
theorem c_lcR {F : List Addr} {B : Hp} {L : List (Addr × HO)} {n : Int} {tr : TA} {j : Nat} {vs : List Nat} {Q : VK} (f : Nat → Int) (s : Hs F B L H) (h : VA tr σ H [.int n]) (hn : 0 ≤ n ∧ n ≤ 1000000) (hw : ∀ x, wipe ((wipe σ vs).set j (some x)) vs = wipe σ vs)
    (he : ∀ (i : Nat) H', (i : Int) < n → Hs F B L H' → Val te ((wipe σ vs).set j (some (.int (i : Int)))) H' (.int (f i)))
    (k : ∀ D H', Hs F B ((D, .lst (((List.range n.toNat).map f).map V.int)) :: L) H' → Q (.ref D) H') : tLc (iRng1 tr) (gName j) tYes te vs σ H Q :=
  h _ ⟨n, rfl, by omega, by omega, fun D hD => lc_range (lo := 0) (n := n.toNat) (fun i H' => Hs F B ((D, .lst (((List.range i).map f).map V.int)) :: L) H') (s.new hD _) (fun i H' hi p => by
    show wipe ((wipe σ vs).set j (some (.int ((0 : Int) + (i : Int))))) vs = wipe σ vs ∧ te ((wipe σ vs).set j (some (.int ((0 : Int) + (i : Int))))) H' fun y H4 => ∃ acc, H4 D = some (.lst acc) ∧ acc.length < sizeLine ∧ Hs F B ((D, .lst (((List.range (i + 1)).map f).map V.int)) :: L) (upd H4 D (.lst (acc ++ [y])))
    rw [Int.zero_add]
    refine ⟨hw _, he i H' (by omega) p.tl _ ⟨((List.range i).map f).map V.int, p.mem 0 rfl, sz2 (by simp only [List.length_map, List.length_range]; omega), ?_⟩⟩
    rw [range_map_snoc]
    exact p.wr 0 _ rfl) (fun H' p => k D H' p)⟩
theorem c_yes {A B : Prop} (hp : p) (k : A) : if decide p = true then A else B := by rw [decide_eq_true hp]; exact k
theorem c_no {A B : Prop} (hp : ¬ p) (k : B) : if decide p = true then A else B := by rw [decide_eq_false hp]; exact k
theorem ty_l {a : Addr} {xs : List V} (h : SqL K H a xs) : tyV K "list" (.ref a) H := .inl ⟨rfl, xs, h⟩
abbrev rMin2 : List V → Hp → VK → Prop := fun xs H Q => ∃ i j, xs = [.int i, .int j] ∧ Q (.int (if j < i then j else i)) H
abbrev rMax2 : List V → Hp → VK → Prop := fun xs H Q => ∃ i j, xs = [.int i, .int j] ∧ Q (.int (if j > i then j else i)) H
theorem vmin2 {i j : Int} (ha : Val ta σ H (.int i)) (hb : Val tb σ H (.int j)) : Val (tCB rMin2 (tCons ta (tCons tb tNil))) σ H (.int (if j < i then j else i)) := fun Q q => ha _ (hb _ ⟨i, j, rfl, q⟩)
theorem vmax2 {i j : Int} (ha : Val ta σ H (.int i)) (hb : Val tb σ H (.int j)) : Val (tCB rMax2 (tCons ta (tCons tb tNil))) σ H (.int (if j > i then j else i)) := fun Q q => ha _ (hb _ ⟨i, j, rfl, q⟩)
theorem pe_nev {X : Cx} {e : Expr} : PE X e (fun _ _ _ => False) := ⟨fun _ _ _ _ _ _ h => h.elim⟩
theorem pt_nev {X : Cx} {e : Expr} : PT X e (fun _ _ _ => False) := ⟨fun _ _ _ _ _ _ h => h.elim⟩
theorem kQb {b : Bool} {P : Hp → Prop} (Q : VK) (k : ∀ H', P H' → Q (.bl (decide (b = true))) H') : ∀ H', P H' → Q (.bl b) H' := fun H' h => by
  have := k H' h
  rwa [show decide (b = true) = b from by cases b <;> rfl] at this
theorem c_andV {F : List Addr} {B : Hp} {L : List (Addr × HO)} {Q : VK} (s : Hs F B L H) (ha : Val ta σ H (.bl (decide p))) (hb : p → ∀ Q : VK, (∀ H', Hs F B L H' → Q (.bl (decide q)) H') → tb σ H Q)
    (k : ∀ H', Hs F B L H' → Q (.bl (decide (p ∧ q))) H') : tAndV ta tb σ H Q := ha _ ⟨_, rfl, by
  by_cases hp : p
  · rw [decide_eq_true hp]
    refine hb hp Q fun H' h => ?_
    rw [show decide q = decide (p ∧ q) from by simp [hp]]; exact k H' h
  · rw [decide_eq_false hp]
    have := k H s
    rw [show decide (p ∧ q) = false from by simp [hp]] at this; exact this⟩
theorem c_orV {F : List Addr} {B : Hp} {L : List (Addr × HO)} {Q : VK} (s : Hs F B L H) (ha : Val ta σ H (.bl (decide p))) (hb : ¬ p → ∀ Q : VK, (∀ H', Hs F B L H' → Q (.bl (decide q)) H') → tb σ H Q)
    (k : ∀ H', Hs F B L H' → Q (.bl (decide (p ∨ q))) H') : tOrV ta tb σ H Q := ha _ ⟨_, rfl, by
  by_cases hp : p
  · rw [decide_eq_true hp]
    have := k H s
    rw [show decide (p ∨ q) = true from by simp [hp]] at this; exact this
  · rw [decide_eq_false hp]
    refine hb hp Q fun H' h => ?_
    rw [show decide q = decide (p ∨ q) from by simp [hp]]; exact k H' h⟩
theorem c_iten {A B : Prop} (h2 : ¬ p → A) (h1 : p → B) : if (!decide p) = true then A else B := by
  by_cases hp : p
  · rw [decide_eq_true hp]; exact h1 hp
  · rw [decide_eq_false hp]; exact h2 hp
theorem c_iteBn {b : Bool} {A B : Prop} (h2 : ¬ b = true → A) (h1 : b = true → B) : if (!b) = true then A else B := by
  cases b with
  | true => exact h1 rfl
  | false => exact h2 Bool.false_ne_true
theorem c_or {Q : Bool → Hp → Prop} (k : t σ H fun c H1 => if c = true then Q true H1 else u σ H1 Q) : tOr t u σ H Q := k
theorem c_and {Q : Bool → Hp → Prop} (k : t σ H fun c H1 => if c = true then u σ H1 Q else Q false H1) : tAnd t u σ H Q := k
theorem c_not {Q : Bool → Hp → Prop} (k : t σ H fun c H1 => Q (!c) H1) : tNot t σ H Q := k
theorem c_tB {Q : Bool → Hp → Prop} (k : te σ H fun x H' => ∃ b, x = .bl b ∧ Q b H') : tB te σ H Q := k
theorem flat_ints (ns : List Int) : (ns.map V.int).all flatV = true := by
  induction ns with
  | nil => rfl
  | cons n r ih => exact ih
theorem inV_ints (a : Int) (ns : List Int) : inV (V.int a) (ns.map V.int) = decide (a ∈ ns) := by
  induction ns with
  | nil => rfl
  | cons n r ih =>
    have e : inV (V.int a) ((n :: r).map V.int) = (n == a || inV (V.int a) (r.map V.int)) := rfl
    rw [e, ih]
    by_cases h : n = a
    · subst h; simp
    · have h2 : ¬ a = n := fun z => h z.symm
      simp [h, h2]
theorem r_in {a : Int} {ns : List Int} {p : Addr} {Q : VK} (h : SqL K H p (ns.map V.int) ∨ SqT K H p (ns.map V.int)) (k : Q (.bl (decide (a ∈ ns))) H) : rIn K false (.int a) (.ref p) H Q :=
  ⟨p, ns.map V.int, rfl, h, rfl, flat_ints _, by
    show Q (.bl (inV (V.int a) (ns.map V.int))) H
    rw [inV_ints]; exact k⟩
theorem r_notin {a : Int} {ns : List Int} {p : Addr} {Q : VK} (h : SqL K H p (ns.map V.int) ∨ SqT K H p (ns.map V.int)) (k : Q (.bl (decide (¬ (a ∈ ns)))) H) : rIn K true (.int a) (.ref p) H Q :=
  ⟨p, ns.map V.int, rfl, h, rfl, flat_ints _, by
    show Q (.bl (!inV (V.int a) (ns.map V.int))) H
    rw [inV_ints, dec_not]; exact k⟩
theorem inI_t {a : Int} {ns : List Int} (h : (if false = true then !inV (V.int a) (ns.map V.int) else inV (V.int a) (ns.map V.int)) = true) : a ∈ ns := by
  have h' : inV (V.int a) (ns.map V.int) = true := h
  rw [inV_ints] at h'; exact of_decide_eq_true h'
theorem inI_f {a : Int} {ns : List Int} (h : ¬ (if false = true then !inV (V.int a) (ns.map V.int) else inV (V.int a) (ns.map V.int)) = true) : ¬ a ∈ ns := fun z => h (by
  show inV (V.int a) (ns.map V.int) = true
  rw [inV_ints]; exact decide_eq_true z)
theorem niI_t {a : Int} {ns : List Int} (h : (if true = true then !inV (V.int a) (ns.map V.int) else inV (V.int a) (ns.map V.int)) = true) : ¬ a ∈ ns := fun z => by
  have h' : (!inV (V.int a) (ns.map V.int)) = true := h
  rw [inV_ints, decide_eq_true z] at h'; cases h'
theorem niI_f {a : Int} {ns : List Int} (h : ¬ (if true = true then !inV (V.int a) (ns.map V.int) else inV (V.int a) (ns.map V.int)) = true) : a ∈ ns := by
  refine Decidable.byContradiction fun z => h ?_
  show (!inV (V.int a) (ns.map V.int)) = true
  rw [inV_ints, decide_eq_false z]; rfl
end
end G
local macro_rules | `(tactic| walk_at "side") => `(tactic| first | omega | assumption | decide | exact Int.emod_nonneg _ (by omega) | exact Int.emod_lt_of_pos _ (by omega) | (simp only [List.length_map, List.length_append, List.length_cons, List.length_nil, List.length_replicate, List.length_set, G.gi] <;> omega) | (simp <;> omega) | walk_at "side2")
local macro_rules | `(tactic| walk_at "cmul") => `(tactic| first | decide | (constructor <;> omega))
local macro_rules | `(tactic| walk_at "cmul2") => `(tactic| first | exact G.cm_l (by omega) (by omega) | exact G.cm_r (by omega) (by omega))
local macro_rules | `(tactic| walk_at "dead") => `(tactic| first | omega | contradiction | (simp_all; done) | (simp_all; omega))
local macro_rules | `(tactic| walk_at "finL") => `(tactic| first | rfl | (subst_vars; rfl) | (simp; done))
local macro_rules | `(tactic| walk_at "inv") => `(tactic| first | assumption | rfl | omega | (simp; done) | (simp_all; done))
local macro_rules | `(tactic| walk_at "fin") => `(tactic| first | rfl | (simp_all; done))
local macro_rules | `(tactic| walk_at "shp") => `(tactic| first | rfl | decide | (unfold PySem.SeqAt.shaped; simp [PySem.PyData.canLay0, PySem.PyData.canLayAll0, PySem.PyData.depth, PySem.PyData.depthAll, G.lay_ints, G.dep_ints0]; done) | exact G.shp_ints _)
local macro_rules | `(tactic| walk_at "known") => `(tactic| first | decide | (simp; done) | omega | (simp_all; done))
/-! ### texts by their codes -/
namespace G
open PySem PySem.Spec PyProof.Rows L2
def sO (xs : List Nat) : Str := ⟨xs.toArray⟩
theorem sO_cps (xs : List Nat) : (sO xs).cps.toList = xs := rfl
theorem sO_len (xs : List Nat) : (sO xs).length = xs.length := by simp [sO, Str.length]
theorem sO_app (xs ys : List Nat) : sO xs ++ sO ys = sO (xs ++ ys) := by
  show Str.append (sO xs) (sO ys) = sO (xs ++ ys)
  simp [sO, Str.append]
theorem sO_inj {xs ys : List Nat} (h : sO xs = sO ys) : xs = ys := by
  have := congrArg (fun s : Str => s.cps.toList) h
  exact this
theorem sO_of (s : Str) : s = sO s.cps.toList := by
  cases s with
  | mk c => simp [sO]
def gn (xs : List Nat) (i : Int) : Nat := xs.getD i.toNat 0
theorem at_gn {xs : List Nat} {i : Int} (h0 : 0 ≤ i) (h1 : i < (xs.length : Int)) : atI xs i = some (gn xs i) := by
  obtain ⟨n, rfl⟩ := Int.eq_ofNat_of_zero_le h0
  refine atI_nat ?_
  have hn : n < xs.length := by omega
  rw [List.getElem?_eq_getElem hn]
  show some xs[n] = some (xs.getD n 0)
  rw [List.getD_eq_getElem?_getD, List.getElem?_eq_getElem hn]; rfl
theorem gn_mem {xs : List Nat} {i : Int} (h0 : 0 ≤ i) (h1 : i < (xs.length : Int)) : gn xs i ∈ xs := by
  obtain ⟨n, rfl⟩ := Int.eq_ofNat_of_zero_le h0
  have hn : n < xs.length := by omega
  show xs.getD n 0 ∈ xs
  rw [List.getD_eq_getElem?_getD, List.getElem?_eq_getElem hn]
  exact List.getElem_mem hn
section
variable {K : PySem.W.Frag} {σ σ' : L2.St} {H : Hp} {ta tb te : TE} {tz tu : TS} {D : Ends}
abbrev rAddS : R2 := fun x y H Q => ∃ i j, x = .str i ∧ y = .str j ∧ i.length + j.length ≤ sizeLine ∧ Q (.str (i ++ j)) H
theorem vcat {a b : List Nat} (h : a.length + b.length ≤ 1000000) (ha : Val ta σ H (.str (sO a))) (hb : Val tb σ H (.str (sO b))) : Val (tOp rAddS ta tb) σ H (.str (sO (a ++ b))) := fun Q q =>
  ha _ (hb _ ⟨sO a, sO b, rfl, rfl, by rw [sO_len, sO_len]; exact sz1 h, by rw [sO_app]; exact q⟩)
theorem r_cat {a b : List Nat} {Q : VK} (h : a.length + b.length ≤ 1000000) (k : Q (.str (sO (a ++ b))) H) : rAddS (.str (sO a)) (.str (sO b)) H Q :=
  ⟨sO a, sO b, rfl, rfl, by rw [sO_len, sO_len]; exact sz1 h, by rw [sO_app]; exact k⟩
theorem vixS {a : List Nat} {i : Int} {c : Nat} (h : a.length ≤ 1000000) (hc : atI a i = some c) (ha : Val ta σ H (.str (sO a))) (hb : Val tb σ H (.int i)) : Val (tOp rIxS ta tb) σ H (.str (sO [c])) := fun Q q =>
  ha _ (hb _ ⟨sO a, i, c, rfl, rfl, by rw [sO_len]; exact sz1 h, by rw [sO_cps]; exact hc, q⟩)
abbrev rLenT : List V → Hp → VK → Prop := fun xs H Q => ∃ z, xs = [.str z] ∧ z.length ≤ sizeLine ∧ Q (.int z.length) H
theorem vlenS {a : List Nat} (h : a.length ≤ 1000000) (ha : Val ta σ H (.str (sO a))) : Val (tCB rLenT (tCons ta tNil)) σ H (.int a.length) := fun Q q =>
  ha _ ⟨sO a, rfl, by rw [sO_len]; exact sz1 h, by rw [sO_len]; exact q⟩
theorem veqS {a b : List Nat} (ha : Val ta σ H (.str (sO a))) (hb : Val tb σ H (.str (sO b))) : Val (tOp rEq ta tb) σ H (.bl (decide (a = b))) := fun Q q =>
  ha _ (hb _ ⟨rfl, by rw [dec_eq_V (fun x => V.str (sO x)) (fun _ _ e => sO_inj (V.str.inj e))]; exact q⟩)
theorem vneS {a b : List Nat} (ha : Val ta σ H (.str (sO a))) (hb : Val tb σ H (.str (sO b))) : Val (tOp rNe ta tb) σ H (.bl (decide (a ≠ b))) := fun Q q =>
  ha _ (hb _ ⟨rfl, by rw [dec_eq_V (fun x => V.str (sO x)) (fun _ _ e => sO_inj (V.str.inj e)), dec_not]; exact q⟩)
theorem r_eqS {a b : List Nat} {Q : VK} (k : Q (.bl (decide (a = b))) H) : rEq (.str (sO a)) (.str (sO b)) H Q := ⟨rfl, by rw [dec_eq_V (fun x => V.str (sO x)) (fun _ _ e => sO_inj (V.str.inj e))]; exact k⟩
theorem r_neS {a b : List Nat} {Q : VK} (k : Q (.bl (decide (a ≠ b))) H) : rNe (.str (sO a)) (.str (sO b)) H Q := ⟨rfl, by rw [dec_eq_V (fun x => V.str (sO x)) (fun _ _ e => sO_inj (V.str.inj e)), dec_not]; exact k⟩
abbrev rOrd : List V → Hp → VK → Prop := fun xs H Q => ∃ x, xs = [.str x] ∧ x.length = 1 ∧ Q (.int (x.cps.getD 0 0 : Nat)) H
theorem vord {c : Nat} (ha : Val ta σ H (.str (sO [c]))) : Val (tCB rOrd (tCons ta tNil)) σ H (.int c) := fun Q q => ha _ ⟨sO [c], rfl, rfl, q⟩
/-- for c in s -/
theorem s_forS {a : List Nat} {n : Nat} (h : Val te σ H (.str (sO a))) (Pv : Nat → L2.St → Hp → Prop) (h0 : Pv 0 σ H)
    (hs : ∀ i c σ' H', a[i]? = some c → Pv i σ' H' → tu { D with nx := Pv (i + 1), ct := Pv (i + 1), bk := tz D } (σ'.set n (some (.str (sO [c])))) H') (hd : ∀ σ' H', Pv a.length σ' H' → tz D σ' H') : tSeq (tFor (iStr te) (gName n) tu) tz D σ H :=
  h _ ⟨sO a, rfl, for_it (n := a.length) (Y := fun i H v H' => H' = H ∧ ∃ c, a[i]? = some c ∧ v = .str (sO [c])) ⟨fun i _ hi _ => by
      show i < (sO a).cps.size
      simpa [sO] using hi, fun _ _ => by
      show (sO a).cps.size ≤ a.length
      simp [sO], fun i _ x _ _ _ y => by
      obtain ⟨e, c, hc, hv⟩ := y
      refine ⟨e, c, ?_, hv⟩
      have hc' : (sO a).cps[i]? = some c := hc
      simpa [sO] using hc'⟩ (G := fun _ => True) Pv h0 (fun _ _ _ _ _ => trivial) (fun i x σ1 H1 H2 hi hp y => by
    obtain ⟨rfl, c, hc, rfl⟩ := y
    exact hs i c σ1 H2 hc hp) hd⟩
/-- [e for c in s] -/
theorem c_lcS {F : List Addr} {B : Hp} {L : List (Addr × HO)} {a : List Nat} {j : Nat} {vs : List Nat} {Q : VK} (g : Nat → V) (s : Hs F B L H) (h : Val te σ H (.str (sO a))) (hn : a.length ≤ 100000) (hw : ∀ x, wipe ((wipe σ vs).set j (some x)) vs = wipe σ vs)
    (he : ∀ (i : Nat) c H', a[i]? = some c → Hs F B L H' → Val tb ((wipe σ vs).set j (some (.str (sO [c])))) H' (g c))
    (k : ∀ D H', Hs F B ((D, .lst (a.map g)) :: L) H' → Q (.ref D) H') : tLc (iStr te) (gName j) tYes tb vs σ H Q :=
  h _ ⟨sO a, rfl, fun D hD => lc_it (n := a.length) (G := fun _ => True) (Y := fun i H v H' => H' = H ∧ ∃ c, a[i]? = some c ∧ v = .str (sO [c])) ⟨fun i _ hi _ => by
      show i < (sO a).cps.size
      simpa [sO] using hi, fun _ _ => by
      show (sO a).cps.size ≤ a.length
      simp [sO], fun i _ x _ _ _ y => by
      obtain ⟨e, c, hc, hv⟩ := y
      refine ⟨e, c, ?_, hv⟩
      have hc' : (sO a).cps[i]? = some c := hc
      simpa [sO] using hc'⟩ (fun i H' => Hs F B ((D, .lst ((a.take i).map g)) :: L) H') (s.new hD _) (fun _ _ _ _ => trivial) (fun i x H1 H2 hi p y => by
    obtain ⟨rfl, c, hc, rfl⟩ := y
    show wipe ((wipe σ vs).set j (some (.str (sO [c])))) vs = wipe σ vs ∧ tb ((wipe σ vs).set j (some (.str (sO [c])))) H2 fun y H4 => ∃ acc, H4 D = some (.lst acc) ∧ acc.length < sizeLine ∧ Hs F B ((D, .lst ((a.take (i + 1)).map g)) :: L) (upd H4 D (.lst (acc ++ [y])))
    refine ⟨hw _, he i c H2 hc p.tl _ ⟨(a.take i).map g, p.mem 0 rfl, sz2 (by rw [List.length_map, List.length_take]; omega), ?_⟩⟩
    rw [show (a.take (i + 1)).map g = (a.take i).map g ++ [g c] from by rw [List.take_add_one, hc, List.map_append]; rfl]
    exact p.wr 0 _ rfl) (fun H' p => k D H' (by rwa [List.take_length] at p))⟩
theorem map_comp_V {α β : Type} (f : α → β) (v : β → V) (a : List α) : a.map (fun c => v (f c)) = (a.map f).map v := (List.map_map ..).symm
abbrev rJoin (K : PySem.W.Frag) : V → List V → Hp → VK → Prop := fun x xs H Q => ∃ a p, ∃ ys : List Str, x = .str a ∧ xs = [.ref p] ∧ (SqL K H p (ys.map V.str) ∨ SqT K H p (ys.map V.str)) ∧ (ys.map (·.length)).sum + ys.length * a.length ≤ 16777216 ∧ Q (.str (Txt.join a ys)) H
theorem c_m1 {r : V → List V → Hp → VK → Prop} {Q : VK} (k : ta σ H fun x H1 => (∃ a, x = .str a) ∧ te σ H1 fun y H2 => r x [y] H2 Q) : tM1 r ta te σ H Q := k
theorem fold_join (acc : List Nat) : ∀ ws : List (List Nat), (ws.map sO).foldl (fun (acc : Array Nat) (p : Str) => acc ++ (sO []).cps ++ p.cps) acc.toArray = (acc ++ ws.flatten).toArray
  | [] => by simp
  | w :: r => by
    have e : acc.toArray ++ (sO []).cps ++ (sO w).cps = (acc ++ w).toArray := by simp [sO]
    rw [List.map_cons, List.foldl_cons, e, fold_join (acc ++ w) r, List.flatten_cons, List.append_assoc]
theorem join_nil (ws : List (List Nat)) : Txt.join (sO []) (ws.map sO) = sO ws.flatten := by
  show (⟨((ws.map sO).drop 1).foldl (fun acc p => acc ++ (sO []).cps ++ p.cps) ((ws.map sO).headD Str.empty).cps⟩ : Str) = sO ws.flatten
  cases ws with
  | nil => rfl
  | cons w r =>
    show (⟨(r.map sO).foldl (fun acc p => acc ++ (sO []).cps ++ p.cps) w.toArray⟩ : Str) = sO (w :: r).flatten
    rw [fold_join w r, List.flatten_cons]; rfl
theorem len_strs (ws : List (List Nat)) : ((ws.map sO).map (·.length)).sum = ws.flatten.length := by
  induction ws with
  | nil => rfl
  | cons w r ih => rw [List.map_cons, List.map_cons, List.sum_cons, ih, List.flatten_cons, List.length_append, sO_len]
theorem r_join {ws : List (List Nat)} {p : Addr} {Q : VK} (h : SqL K H p ((ws.map sO).map V.str)) (hl : ws.flatten.length ≤ 1000000) (k : Q (.str (sO ws.flatten)) H) : rJoin K (.str (sO [])) [.ref p] H Q :=
  ⟨sO [], p, ws.map sO, rfl, rfl, .inl h, by
    rw [len_strs]
    have e : (sO []).length = 0 := rfl
    rw [e, Nat.mul_zero]; omega, by rw [join_nil]; exact k⟩
end
end G
/-! ### comprehensions with a test, over lists, tuples and ranges of ints; insert; slices -/
namespace G
open PySem PySem.Spec PyProof.Rows L2
section
variable {K : PySem.W.Frag} {σ σ' : L2.St} {H : Hp} {ta tb te : TE} {tt : TT} {tz tu : TS} {D : Ends} {F : List Addr} {B : Hp} {L : List (Addr × HO)}
theorem ans_yes : Ans tYes σ H True := fun _ q => q
def fm (p : Int → Prop) [DecidablePred p] (f : Int → Int) (ns : List Int) : List Int := (ns.filter fun x => decide (p x)).map f
theorem fm_le (p : Int → Prop) [DecidablePred p] (f : Int → Int) (ns : List Int) : (fm p f ns).length ≤ ns.length := by
  unfold fm; rw [List.length_map]; exact List.length_filter_le _ _
theorem fm_snoc (p : Int → Prop) [DecidablePred p] (f : Int → Int) (ns : List Int) (n : Int) : fm p f (ns ++ [n]) = fm p f ns ++ (if p n then [f n] else []) := by
  unfold fm
  rw [List.filter_append, List.map_append]
  by_cases h : p n
  · simp [h]
  · simp [h]
theorem c_lcF {ns : List Int} {a : Addr} {j : Nat} {vs : List Nat} {Q : VK} (p : Int → Prop) [DecidablePred p] (f : Int → Int) (s : Hs F B L H) (h : Val te σ H (.ref a)) (hl : ∀ H', Hs F B L H' → SqL K H' a (ns.map V.int)) (hn : ns.length ≤ 100000) (hw : ∀ x, wipe ((wipe σ vs).set j (some x)) vs = wipe σ vs)
    (ht : ∀ (i : Nat) n H', ns[i]? = some n → Hs F B L H' → Ans tt ((wipe σ vs).set j (some (.int n))) H' (p n))
    (he : ∀ (i : Nat) n H', ns[i]? = some n → p n → Hs F B L H' → Val tb ((wipe σ vs).set j (some (.int n))) H' (.int (f n)))
    (k : ∀ D H', Hs F B ((D, .lst ((fm p f ns).map V.int)) :: L) H' → Q (.ref D) H') : tLc (iList K te) (gName j) tt tb vs σ H Q :=
  h _ ⟨a, rfl, ⟨_, hl H s⟩, fun D hD => lc_list (xs := ns.map V.int) (fun i H' => Hs F B ((D, .lst ((fm p f (ns.take i)).map V.int)) :: L) H') (s.new hD _) (fun i H' _ q => hl _ q.tl) (fun i x H2 hx q => by
    rw [List.getElem?_map] at hx
    cases e : ns[i]? with
    | none => rw [e] at hx; cases hx
    | some n =>
      rw [e] at hx; cases hx
      show wipe ((wipe σ vs).set j (some (.int n))) vs = wipe σ vs ∧ tt ((wipe σ vs).set j (some (.int n))) H2 fun b H3 =>
        if b = true then tb ((wipe σ vs).set j (some (.int n))) H3 fun y H4 => ∃ acc, H4 D = some (.lst acc) ∧ acc.length < sizeLine ∧ Hs F B ((D, .lst ((fm p f (ns.take (i + 1))).map V.int)) :: L) (upd H4 D (.lst (acc ++ [y])))
        else Hs F B ((D, .lst ((fm p f (ns.take (i + 1))).map V.int)) :: L) H3
      refine ⟨hw _, ht i n H2 e q.tl _ ?_⟩
      have e1 : ns.take (i + 1) = ns.take i ++ [n] := by rw [List.take_add_one, e]; rfl
      rw [e1, fm_snoc]
      by_cases hp : p n
      · rw [decide_eq_true hp, if_pos hp]
        refine he i n H2 e hp q.tl _ ⟨_, q.mem 0 rfl, sz2 (by rw [List.length_map]; exact Nat.lt_of_le_of_lt (fm_le ..) (by rw [List.length_take]; omega)), ?_⟩
        rw [List.map_append]
        exact q.wr 0 _ rfl
      · rw [decide_eq_false hp, if_neg hp, List.append_nil]
        exact q) (fun H' q => k D H' (by rwa [List.length_map, List.take_length] at q))⟩
def rgI (lo : Int) (n : Nat) : List Int := (List.range n).map fun (j : Nat) => lo + (j : Int)
theorem rgI_snoc (lo : Int) (n : Nat) : rgI lo (n + 1) = rgI lo n ++ [lo + (n : Int)] := by unfold rgI; rw [List.range_succ, List.map_append]; rfl
theorem rgI_len (lo : Int) (n : Nat) : (rgI lo n).length = n := by unfold rgI; rw [List.length_map, List.length_range]
theorem mem_rgI {lo x : Int} {n : Nat} : x ∈ rgI lo n ↔ lo ≤ x ∧ x < lo + (n : Int) := by
  unfold rgI
  rw [List.mem_map]
  constructor
  · rintro ⟨j, hj, rfl⟩; have := List.mem_range.mp hj; omega
  · rintro ⟨h0, h1⟩; exact ⟨(x - lo).toNat, List.mem_range.mpr (by omega), by omega⟩
theorem c_lcR2 {lo m : Int} {tr : TA} {j : Nat} {vs : List Nat} {Q : VK} (p : Int → Prop) [DecidablePred p] (f : Int → Int) (s : Hs F B L H) (h : VA tr σ H [.int lo, .int m]) (hn : -1000000 ≤ lo ∧ lo ≤ 1000000 ∧ -1000000 ≤ m ∧ m - lo ≤ 100000) (hw : ∀ x, wipe ((wipe σ vs).set j (some x)) vs = wipe σ vs)
    (ht : ∀ n H', lo ≤ n → n < m → Hs F B L H' → Ans tt ((wipe σ vs).set j (some (.int n))) H' (p n))
    (he : ∀ n H', lo ≤ n → n < m → p n → Hs F B L H' → Val te ((wipe σ vs).set j (some (.int n))) H' (.int (f n)))
    (k : ∀ D H', Hs F B ((D, .lst ((fm p f (rgI lo (m - lo).toNat)).map V.int)) :: L) H' → Q (.ref D) H') : tLc (iRng2 tr) (gName j) tt te vs σ H Q :=
  h _ ⟨lo, m, rfl, by omega, fun D hD => lc_range (lo := lo) (n := (m - lo).toNat) (fun i H' => Hs F B ((D, .lst ((fm p f (rgI lo i)).map V.int)) :: L) H') (s.new hD _) (fun i H2 hi q => by
    show wipe ((wipe σ vs).set j (some (.int (lo + (i : Int))))) vs = wipe σ vs ∧ tt ((wipe σ vs).set j (some (.int (lo + (i : Int))))) H2 fun b H3 =>
        if b = true then te ((wipe σ vs).set j (some (.int (lo + (i : Int))))) H3 fun y H4 => ∃ acc, H4 D = some (.lst acc) ∧ acc.length < sizeLine ∧ Hs F B ((D, .lst ((fm p f (rgI lo (i + 1))).map V.int)) :: L) (upd H4 D (.lst (acc ++ [y])))
        else Hs F B ((D, .lst ((fm p f (rgI lo (i + 1))).map V.int)) :: L) H3
    refine ⟨hw _, ht _ H2 (by omega) (by omega) q.tl _ ?_⟩
    rw [rgI_snoc, fm_snoc]
    by_cases hp : p (lo + (i : Int))
    · rw [decide_eq_true hp, if_pos hp]
      refine he _ H2 (by omega) (by omega) hp q.tl _ ⟨_, q.mem 0 rfl, sz2 (by rw [List.length_map]; exact Nat.lt_of_le_of_lt (fm_le ..) (by rw [rgI_len]; omega)), ?_⟩
      rw [List.map_append]
      exact q.wr 0 _ rfl
    · rw [decide_eq_false hp, if_neg hp, List.append_nil]
      exact q) (fun H' q => k D H' q)⟩
/-! insert -/
abbrev rInsert : V → List V → Hp → VK → Prop := fun x vs H Q => ∃ (l : Addr) (xs : List V) (i : Int) (y : V), x = .ref l ∧ vs = [.int i, y] ∧ H l = some (.lst xs) ∧ xs.length < sizeLine ∧ 0 ≤ i ∧ i < 2 ^ 63 ∧
    Q .non (upd H l (.lst (xs.take i.toNat ++ [y] ++ xs.drop i.toNat)))
def insI (xs : List Int) (i n : Int) : List Int := xs.take i.toNat ++ [n] ++ xs.drop i.toNat
theorem s_insI {l : Addr} {xs : List Int} {n i : Int} (hl : H l = some (.lst (xs.map V.int))) (ha : Val ta σ H (.ref l)) (hi : Val tb σ H (.int i)) (h : Val te σ H (.int n)) (hz : xs.length < 1000000) (h0 : 0 ≤ i) (h1 : i < 2 ^ 62) (k : tz D σ (upd H l (.lst ((insI xs i n).map V.int)))) :
    tSeq (tDrop (tBM K "list" rInsert ta (tCons tb (tCons te tNil)))) tz D σ H := ha _ ⟨Or.inl ⟨rfl, xs.map V.int, SqL.of hl⟩, hi _ (h _ ⟨l, xs.map V.int, i, .int n, rfl, rfl, hl, by rw [List.length_map]; exact sz2 hz, h0, by omega, by
      show tz D σ (upd H l (.lst ((xs.map V.int).take i.toNat ++ [V.int n] ++ (xs.map V.int).drop i.toNat)))
      rw [insI, List.map_append, List.map_append, List.map_take, List.map_drop] at k; exact k⟩)⟩
/-! slices -/
def VP (tp : TO) (σ : L2.St) (H : Hp) (o : Option Int) : Prop := ∀ Q : Option Int → Hp → Prop, Q o H → tp σ H Q
theorem vp0 : VP tNoPart σ H none := fun _ q => q
theorem vp1 {i : Int} (h : Val te σ H (.int i)) : VP (tPart te) σ H (some i) := fun Q q => h _ ⟨i, rfl, q⟩
def cutN (a : List Nat) (lo hi : Int) : List Nat := (a.drop lo.toNat).take (hi.toNat - lo.toNat)
def cutI (a : List Int) (lo hi : Int) : List Int := (a.drop lo.toNat).take (hi.toNat - lo.toNat)
def pLo : Option Int → Int := fun o => o.getD 0
def pHi (n : Nat) : Option Int → Int := fun o => o.getD n
theorem sIx_lo {n : Nat} {o : Option Int} (h0 : 0 ≤ pLo o) (h1 : pLo o ≤ (n : Int)) : HT.sIx n 0 o = (pLo o).toNat := by
  cases o with
  | none => rfl
  | some i =>
    show (if i < 0 then (i + (n : Int)).toNat else min i.toNat n) = i.toNat
    have h0' : 0 ≤ i := h0
    have h1' : i ≤ (n : Int) := h1
    rw [if_neg (by omega)]; omega
theorem sIx_hi {n : Nat} {o : Option Int} (h0 : 0 ≤ pHi n o) (h1 : pHi n o ≤ (n : Int)) : HT.sIx n n o = (pHi n o).toNat := by
  cases o with
  | none => show n = ((n : Nat) : Int).toNat; omega
  | some i =>
    show (if i < 0 then (i + (n : Int)).toNat else min i.toNat n) = i.toNat
    have h0' : 0 ≤ i := h0
    have h1' : i ≤ (n : Int) := h1
    rw [if_neg (by omega)]; omega
theorem cutS_sO {a : List Nat} {lo hi : Option Int} (h0 : 0 ≤ pLo lo) (h1 : pLo lo ≤ (a.length : Int)) (h2 : 0 ≤ pHi a.length hi) (h3 : pHi a.length hi ≤ (a.length : Int)) : cutS (sO a) lo hi = sO (cutN a (pLo lo) (pHi a.length hi)) := by
  unfold cutS cutN
  rw [sO_len, sIx_lo h0 h1, sIx_hi h2 h3]
  rfl
theorem cutV_ints {a : List Int} {lo hi : Option Int} (h0 : 0 ≤ pLo lo) (h1 : pLo lo ≤ (a.length : Int)) (h2 : 0 ≤ pHi a.length hi) (h3 : pHi a.length hi ≤ (a.length : Int)) : cutV (a.map V.int) lo hi = (cutI a (pLo lo) (pHi a.length hi)).map V.int := by
  unfold cutV cutI
  rw [List.length_map, sIx_lo h0 h1, sIx_hi h2 h3, List.map_take, List.map_drop]
theorem vslS {tl th : TO} {a : List Nat} {lo hi : Option Int} (ha : Val te σ H (.str (sO a))) (hl : VP tl σ H lo) (hh : VP th σ H hi) (hs : a.length ≤ 1000000) (h0 : 0 ≤ pLo lo) (h1 : pLo lo ≤ (a.length : Int)) (h2 : 0 ≤ pHi a.length hi) (h3 : pHi a.length hi ≤ (a.length : Int)) :
    Val (tSl rSlS te tl th) σ H (.str (sO (cutN a (pLo lo) (pHi a.length hi)))) := fun Q q => ha _ (hl _ (hh _ ⟨sO a, rfl, by rw [sO_len]; exact sz1 hs, by rw [cutS_sO h0 h1 h2 h3]; exact q⟩))
theorem r_slL {a : Addr} {xs : List Int} {lo hi : Option Int} {Q : VK} (hq : SqL K H a (xs.map V.int)) (h0 : 0 ≤ pLo lo) (h1 : pLo lo ≤ (xs.length : Int)) (h2 : 0 ≤ pHi xs.length hi) (h3 : pHi xs.length hi ≤ (xs.length : Int))
    (k : ∀ p, H p = none → Q (.ref p) (upd H p (.lst ((cutI xs (pLo lo) (pHi xs.length hi)).map V.int)))) : rSlL K (.ref a) lo hi H Q := ⟨a, _, rfl, hq, fun p np => by rw [cutV_ints h0 h1 h2 h3]; exact k p np⟩
end
end G
namespace G
open PySem PySem.Spec PyProof.Rows L2
theorem vin {K : PySem.W.Frag} {σ : L2.St} {H : Hp} {ta tb : TE} {ns : List Int} {i : Int} {p : Addr} (h : SqL K H p (ns.map V.int) ∨ SqT K H p (ns.map V.int)) (ha : Val ta σ H (.int i)) (hb : Val tb σ H (.ref p)) : Val (tOp (rIn K false) ta tb) σ H (.bl (decide (i ∈ ns))) := fun _ q => ha _ (hb _ (r_in h q))
theorem r_eqI {H : Hp} {a b : Int} {Q : VK} (k : Q (.bl (decide (a = b))) H) : rEq (.int a) (.int b) H Q := ⟨rfl, by rw [dec_eq_V V.int (fun _ _ e => V.int.inj e)]; exact k⟩
theorem r_neI {H : Hp} {a b : Int} {Q : VK} (k : Q (.bl (decide (a ≠ b))) H) : rNe (.int a) (.int b) H Q := ⟨rfl, by rw [dec_eq_V V.int (fun _ _ e => V.int.inj e), dec_not]; exact k⟩
theorem vnin {K : PySem.W.Frag} {σ : L2.St} {H : Hp} {ta tb : TE} {ns : List Int} {i : Int} {p : Addr} (h : SqL K H p (ns.map V.int) ∨ SqT K H p (ns.map V.int)) (ha : Val ta σ H (.int i)) (hb : Val tb σ H (.ref p)) : Val (tOp (rIn K true) ta tb) σ H (.bl (decide (¬ (i ∈ ns)))) := fun _ q => ha _ (hb _ (r_notin h q))
end G

local macro_rules | `(tactic| walk_at "side2") => `(tactic| first | (simp [G.cutN, G.rgI_len]; done) | (simp [G.cutN, G.rgI_len]; omega))
/-! ### reversed lists, list + list, any of ints, equality of lists of ints, defs with defaults -/
namespace G
open PySem PySem.Spec PyProof.Rows L2
section
variable {K : PySem.W.Frag} {σ σ' : L2.St} {H : Hp} {ta tb te : TE} {tz tu : TS} {D : Ends}
theorem s_forV {a : Addr} {xs : List V} {n : Nat} (h : Val te σ H (.ref a)) (hx : SqL K H a xs) (Pv : Nat → L2.St → Hp → Prop) (h0 : Pv 0 σ H) (hl : ∀ i σ' H', i ≤ xs.length → Pv i σ' H' → SqL K H' a xs)
    (hs : ∀ i x σ' H', i < xs.length → xs[xs.length - 1 - i]? = some x → Pv i σ' H' → tu { D with nx := Pv (i + 1), ct := Pv (i + 1), bk := tz D } (σ'.set n (some x)) H') (hd : ∀ σ' H', Pv xs.length σ' H' → tz D σ' H') : tSeq (tFor (RT.iRevA K te) (gName n) tu) tz D σ H :=
  h _ ⟨a, xs, rfl, .inl ⟨hx, for_it walk_rev Pv h0 hl (fun i x σ1 H1 H2 hi p y => by
    obtain ⟨rfl, y⟩ := y
    exact hs i x σ1 H2 hi y p) hd⟩⟩
theorem c_cat {l b : Addr} {xs zs : List V} {Q : VK} (hl : H l = some (.lst xs)) (hb : H b = some (.lst zs)) (hz : xs.length + zs.length ≤ 1000000) (k : ∀ p, H p = none → Q (.ref p) (upd H p (.lst (xs ++ zs)))) : rCat (.ref l) (.ref b) H Q := ⟨l, b, xs, zs, rfl, rfl, hl, hb, sz1 hz, k⟩
theorem truth_ints {prog : Program} {w : World} {A : Around} {ns : List Int} {its : List Value} (e : IntsAre its ns) :
    TruthOf prog w A (fun i v => its.toArray[i]? = some v) (fun i => ns.getD i 0 != 0) := fun i v s Q E hv hq => by
  have hv' : its[i]? = some v := by simpa using hv
  have : ∃ n t, v = .int n t ∧ ns[i]? = some n := by
    clear hq hv
    induction e generalizing i with
    | nil => cases hv'
    | cons n t h ih =>
      cases i with
      | zero => exact ⟨n, t, (Option.some.inj hv').symm, rfl⟩
      | succ j => exact ih j hv'
  obtain ⟨n, t, rfl, hn⟩ := this
  have hg : ns.getD i 0 = n := by rw [List.getD_eq_getElem?_getD, hn] <;> rfl
  have hq' : Q (ns.getD i 0 != 0) s := hq
  rw [hg] at hq'
  exact PyProof.Rows.truthy_int hq'
def anyN (ns : List Int) : Bool := ns.any fun n => n != 0
theorem any_rangeI : ∀ ns : List Int, (List.range ns.length).any (fun i => ns.getD i 0 != 0) = anyN ns
  | [] => rfl
  | b :: bs => by
    unfold anyN
    rw [List.length_cons, List.range_succ_eq_map, List.any_cons, List.any_map, List.any_cons, ← anyN, ← any_rangeI bs]
    all_goals rfl
def rAnyI (K : PySem.W.Frag) : List V → Hp → VK → Prop := fun vs H Q => ∃ (a : Addr) (ns : List Int), vs = [V.ref a] ∧ SqL K H a (ns.map V.int) ∧ Q (.bl (anyN ns)) H
theorem ia_len {its : List Value} {ns : List Int} (h : IntsAre its ns) : its.length = ns.length := by
  induction h with
  | nil => rfl
  | cons n t h ih => rw [List.length_cons, List.length_cons, ih]
theorem cr_anyI {X : Cx} (hc : X.calm = true) : CallR X (.builtin "any") (rAnyI X.K) := by
  intro pins s σ H vs us Q I r h
  obtain ⟨a, ns, rfl, hs, q⟩ := h
  obtain ⟨its, rv, hl, _⟩ := I.list hs
  rw [Vals.ref1 r]
  have hb := Vals.ints rv
  refine call_any_walk (iter_any hl.isList fun s₂ e2 st hne => ?_)
  subst e2
  refine ⟨_, _, _, _, _, _, _, rfl, Walks.list (A := X.A.in1) (I.ok.hd hc) _ a hne its.toArray, st, truth_ints hb, fun h' tk hk => ?_⟩
  refine ⟨.bl _, H, I.kept fun b o eo => hk b o (fun hmem => ?_) (Heap.get?_push_of_some _ eo), ?_, q⟩
  · rcases List.mem_cons.mp hmem with e1 | hmem
    · exact absurd (e1 ▸ Heap.lt_size eo) (Nat.lt_irrefl _)
    · cases hmem
  · show Value.bool _ = Value.bool _
    rw [← any_rangeI, List.size_toArray, ia_len hb]
theorem eqvA_ints : ∀ a b : List Int, PyData.eqvAll (a.map PyData.int) (b.map PyData.int) = decide (a = b)
  | [], [] => by rw [List.map_nil, PyData.eqvAll]; rfl
  | [], _ :: _ => by rw [List.map_nil, List.map_cons, PyData.eqvAll]; rfl
  | _ :: _, [] => by rw [List.map_nil, List.map_cons, PyData.eqvAll]; rfl
  | x :: a, y :: b => by
    have e : PyData.eqv (.int x) (.int y) = (x == y) := by simp only [PyData.eqv]
    rw [List.map_cons, List.map_cons, PyData.eqvAll, e, eqvA_ints a b]
    by_cases h1 : x = y
    · by_cases h2 : a = b
      · simp [h1, h2]
      · simp [h1, h2]
    · simp [h1]
theorem eqvL_ints (a b : List Int) : PyData.eqv (.list (a.map PyData.int)) (.list (b.map PyData.int)) = decide (a = b) := by
  simp only [PyData.eqv]; exact eqvA_ints a b
theorem eqvT_ints (a b : List Int) : PyData.eqv (.tuple (a.map PyData.int)) (.tuple (b.map PyData.int)) = decide (a = b) := by
  simp only [PyData.eqv]; exact eqvA_ints a b
end
theorem okD {P : Program} {w : World} {K : PySem.W.Frag} {mg : Str → Option Value} {base : Heap} {x qual : Str} {st : Stmt} {dvs : List V} {kws : List (Str × V)} {f : Addr} {fd : FuncData} {N ps : List Str} {k : Nat} {sp : Sp} (F : FunD K x qual (defArgs st) (defBody st) (defScope st) dvs kws f fd) (S : FnScope N ps (defScope st)) (len : ∀ vs H Q E, sp vs H Q E → vs.length = ps.length)
    (hbody : ∀ (cdv : Value) (A : Around) (outer : List Env) (s : Shared) (H : Hp) (vs : List V) (Q : VK) (E : XK), Room k (A.deeper (envOfC qual (defScope st) s.heap.objs.size f cdv)) → sp vs H Q E →
      ∃ t, PSs (cxOf CX0 P w K mg base N qual (defScope st) f cdv A outer s H E).nox (defBody st) t ∧ t { nx := fun _ H' => Q .non H', rt := Q } (start N vs) H) : FnOk P w K mg base CX0 (k + 1) f fd ps sp :=
  F.ok S len fun cdv A outer s H vs Q E hr hsp => by
    obtain ⟨t, h, q⟩ := hbody cdv A outer s H vs Q E hr hsp
    exact ⟨t, h.nox, q⟩
theorem funD_mk {K : PySem.W.Frag} {x qual : Str} {st : Stmt} {dvs : List V} {its : List Value} {n : Nat} {T f : Addr} {oc tc : Value} {od an td : Option Addr} {osl tsl : Array (Option Value)} {kV doc pm cdv ct : Value} (l : K.lookup f = some ⟨oc, od, .func (PySem.W.fnOf x qual (defArgs st) (defBody st) (defScope st) (.ref T) kV doc pm an cdv ct), osl⟩)
    (c : PySem.W.codeIn K cdv qual = true) (k : PySem.W.keepIn K (.ref f) = true) (lT : K.lookup T = some ⟨tc, td, .seq its.toArray n, tsl⟩) (hd : dvs ≠ []) (hv : Vals dvs its) :
    FunD K x qual (defArgs st) (defBody st) (defScope st) dvs [] f (PySem.W.fnOf x qual (defArgs st) (defBody st) (defScope st) (.ref T) kV doc pm an cdv ct) :=
  ⟨⟨oc, od, .ref T, kV, doc, pm, an, cdv, ct, osl, rfl, l, c, .inr ⟨hd, T, _, its, n, rfl, lT, rfl, hv⟩, .inl rfl⟩, k⟩
theorem c_prop {C : Addr} {sp : Sp} {dvs : List V} {E : XK} {ta : TE} {σ : L2.St} {H : Hp} {a dx : Addr} {fs : List (Str × V)} {Q : VK} (h : Val ta σ H (.ref a)) (ho : H a = some (.ins C dx fs)) (k : sp (.ref a :: dvs) H Q E) : tProp C sp dvs E ta σ H Q := h _ ⟨a, dx, fs, rfl, ho, k⟩
end G
namespace G
open PySem PySem.Spec PyProof.Rows L2
theorem shp_intsT (ns : List Int) : SeqAt.shaped (.tuple (ns.map PyData.int)) = true := by
  unfold SeqAt.shaped
  refine Bool.and_eq_true_iff.mpr ⟨lay_ints ns, decide_eq_true ?_⟩
  have := dep_ints ns
  show _ ≤ 64
  simp only [PyData.depth]
  omega
theorem c_makeN {C : Addr} {n m : Nat} {sp : Sp} {gV : List V → List V → List V} {E : XK} {t tk : TA} {σ : L2.St} {H : Hp} {Q : VK} (k : t σ H fun vs H1 => tk σ H1 fun zs H2 => vs.length = n ∧ zs.length = m ∧
  ∀ x dx, H2 x = none → H2 dx = none → dx ≠ x → sp (gV (.ref x :: vs) zs) (upd (upd H2 dx (.own x)) x (.ins C dx [])) (fun v H3 => v = .non ∧ Q (.ref x) H3) E) : tMakeN C n m sp gV E t tk σ H Q := k
end G
local macro_rules | `(tactic| walk_at "shp") => `(tactic| first | exact G.shp_ints _ | exact G.shp_intsT _)
namespace G
open PySem PySem.Spec PyProof.Rows L2
theorem c_andW {F : List Addr} {B H : Hp} {L : List (Addr × HO)} {σ : L2.St} {ta tb : TE} {p q : Prop} [Decidable p] [Decidable q] {Q : VK} (s : Hs F B L H) (ha : ∀ Q : VK, (∀ H', Hs F B L H' → Q (.bl (decide p)) H') → ta σ H Q) (hb : ∀ H', Hs F B L H' → p → ∀ Q : VK, (∀ H'', Hs F B L H'' → Q (.bl (decide q)) H'') → tb σ H' Q)
    (k : ∀ H', Hs F B L H' → Q (.bl (decide (p ∧ q))) H') : tAndV ta tb σ H Q := ha _ fun H1 s1 => ⟨_, rfl, by
  by_cases hp : p
  · rw [decide_eq_true hp]
    refine hb H1 s1 hp Q fun H' h => ?_
    rw [show decide q = decide (p ∧ q) from by simp [hp]]; exact k H' h
  · rw [decide_eq_false hp]
    have := k H1 s1
    rw [show decide (p ∧ q) = false from by simp [hp]] at this; exact this⟩
theorem c_orW {F : List Addr} {B H : Hp} {L : List (Addr × HO)} {σ : L2.St} {ta tb : TE} {p q : Prop} [Decidable p] [Decidable q] {Q : VK} (s : Hs F B L H) (ha : ∀ Q : VK, (∀ H', Hs F B L H' → Q (.bl (decide p)) H') → ta σ H Q) (hb : ∀ H', Hs F B L H' → ¬ p → ∀ Q : VK, (∀ H'', Hs F B L H'' → Q (.bl (decide q)) H'') → tb σ H' Q)
    (k : ∀ H', Hs F B L H' → Q (.bl (decide (p ∨ q))) H') : tOrV ta tb σ H Q := ha _ fun H1 s1 => ⟨_, rfl, by
  by_cases hp : p
  · rw [decide_eq_true hp]
    have := k H1 s1
    rw [show decide (p ∨ q) = true from by simp [hp]] at this; exact this
  · rw [decide_eq_false hp]
    refine hb H1 s1 hp Q fun H' h => ?_
    rw [show decide q = decide (p ∨ q) from by simp [hp]]; exact k H' h⟩
def UnrL (tu : TS) (D : Ends) (tz : TS) (j : Nat) (lo : Int) : Nat → Nat → L2.St → Hp → Prop
  | 0, _, σ, H => tz D σ H
  | m + 1, i, σ, H => tu { D with nx := UnrL tu D tz j lo m (i + 1), ct := UnrL tu D tz j lo m (i + 1), bk := tz D } (σ.set j (some (.int (lo + (i : Int))))) H
theorem s_unrR2 {tr : TA} {tu tz : TS} {D : Ends} {σ : L2.St} {H : Hp} {n j : Nat} {lo m : Int} (h : VA tr σ H [.int lo, .int m]) (hn : (m - lo).toNat = n) (h1 : -1000 ≤ lo ∧ lo < 1000 ∧ -1000 ≤ m ∧ m < 1000) (_ : n < 2000) (k : UnrL tu D tz j lo n 0 σ H) : tSeq (tFor (iRng2 tr) (gName j) tu) tz D σ H :=
  s_forR2 h ⟨by omega, by omega, by omega, by omega⟩ (fun i σ H => UnrL tu D tz j lo (n - i) i σ H) (by exact k) (fun i σ' H' hi p => by
    have e : n - i = (n - (i + 1)) + 1 := by omega
    rw [e] at p
    exact p) (fun σ' H' p => by
    rw [show n - (m - lo).toNat = 0 by omega] at p
    exact p)
theorem u_doneL {tu tz : TS} {D : Ends} {σ : L2.St} {H : Hp} {lo : Int} {j i : Nat} (k : tz D σ H) : UnrL tu D tz j lo 0 i σ H := k
theorem u_nextL {tu tz : TS} {D : Ends} {σ : L2.St} {H : Hp} {lo : Int} {j m i : Nat} (k : tu { D with nx := UnrL tu D tz j lo m (i + 1), ct := UnrL tu D tz j lo m (i + 1), bk := tz D } (σ.set j (some (.int (lo + (i : Int))))) H) : UnrL tu D tz j lo (m + 1) i σ H := k
end G
namespace G
open PySem PySem.Spec PyProof.Rows L2
def kForL (K : PySem.W.Frag) (g : TG) (tu tz : TS) (D : Ends) (σ : L2.St) : VK := fun x H1 => tSeq (tFor (iList K (tC x)) g tu) tz D σ H1
theorem c_forL {K : PySem.W.Frag} {g : TG} {tu tz : TS} {D : Ends} {σ : L2.St} {H : Hp} {te : TE} (k : te σ H (kForL K g tu tz D σ)) : tSeq (tFor (iList K te) g tu) tz D σ H := k
theorem k_forL {K : PySem.W.Frag} {g : TG} {tu tz : TS} {D : Ends} {σ : L2.St} {H : Hp} {x : V} (k : tSeq (tFor (iList K (tC x)) g tu) tz D σ H) : kForL K g tu tz D σ x H := k
end G
theorem G.cat_eq {xs ys : List L2.V} {a b : List Int} (h1 : xs = a.map L2.V.int) (h2 : ys = b.map L2.V.int) : L2.HO.lst (xs ++ ys) = L2.HO.lst ((a ++ b).map L2.V.int) := by
  rw [List.map_append, h1, h2]
namespace G
open PySem PySem.Spec PyProof.Rows L2
theorem vintP {σ : L2.St} {H : Hp} {ta : TE} {p : Prop} [Decidable p] (ha : Val ta σ H (.bl (decide p))) : Val (tCB rInt1 (tCons ta tNil)) σ H (.int (if p then 1 else 0)) := by
  have := vintb ha
  by_cases hp : p
  · rw [decide_eq_true hp] at this; rw [if_pos hp]; exact this
  · rw [decide_eq_false hp] at this; rw [if_neg hp]; exact this
end G
/-! ### loops and comprehensions over a short known list, turn by turn -/
namespace G
open PySem PySem.Spec PyProof.Rows L2
section
variable {K : PySem.W.Frag} {σ : L2.St} {H : Hp} {te tb : TE} {tu tz : TS} {D : Ends} {t : TT}
def UnrV (K : PySem.W.Frag) (a : Addr) (al : List V) (tu : TS) (D : Ends) (tz : TS) (j : Nat) : List V → L2.St → Hp → Prop
  | [], σ, H => SqL K H a al ∧ tz D σ H
  | x :: r, σ, H => SqL K H a al ∧ tu { D with nx := UnrV K a al tu D tz j r, ct := UnrV K a al tu D tz j r, bk := tz D } (σ.set j (some x)) H
theorem UnrV.sq {a : Addr} {al : List V} {j : Nat} : ∀ {l : List V} {σ : L2.St} {H : Hp}, UnrV K a al tu D tz j l σ H → SqL K H a al
  | [], _, _, h => h.1
  | _ :: _, _, _, h => h.1
theorem drop_at {α : Type} {xs : List α} {i : Nat} {x : α} (h : xs[i]? = some x) : xs.drop i = x :: xs.drop (i + 1) := by
  obtain ⟨hl, e⟩ := List.getElem?_eq_some_iff.mp h
  rw [List.drop_eq_getElem_cons hl, e]
theorem s_unrV {a : Addr} {xs : List V} {n : Nat} (h : Val te σ H (.ref a)) (hx : SqL K H a xs) (k : UnrV K a xs tu D tz n xs σ H) : tSeq (tFor (iList K te) (gName n) tu) tz D σ H :=
  s_forL h hx (fun i σ H => UnrV K a xs tu D tz n (xs.drop i) σ H) k (fun i σ' H' _ p => UnrV.sq p) (fun i x σ' H' hx p => by
    rw [drop_at hx] at p
    exact p.2) (fun σ' H' p => by
    rw [List.drop_length] at p
    exact p.2)
theorem u_doneV {a : Addr} {al : List V} {j : Nat} (hx : SqL K H a al) (k : tz D σ H) : UnrV K a al tu D tz j [] σ H := ⟨hx, k⟩
theorem u_nextV {a : Addr} {al : List V} {j : Nat} {x : V} {r : List V} (hx : SqL K H a al) (k : tu { D with nx := UnrV K a al tu D tz j r, ct := UnrV K a al tu D tz j r, bk := tz D } (σ.set j (some x)) H) : UnrV K a al tu D tz j (x :: r) σ H := ⟨hx, k⟩
def LcV (K : PySem.W.Frag) (a : Addr) (al : List V) (tb : TE) (j : Nat) (vs : List Nat) (σ : L2.St) (D : Addr) (Q : VK) : List V → Hp → Prop
  | [], H => SqL K H a al ∧ Q (.ref D) H
  | x :: r, H => SqL K H a al ∧ wipe ((wipe σ vs).set j (some x)) vs = wipe σ vs ∧ tb ((wipe σ vs).set j (some x)) H fun y H4 => ∃ acc, H4 D = some (.lst acc) ∧ acc.length < sizeLine ∧ LcV K a al tb j vs σ D Q r (upd H4 D (.lst (acc ++ [y])))
theorem LcV.sq {a : Addr} {al : List V} {j : Nat} {vs : List Nat} {D : Addr} {Q : VK} : ∀ {l : List V} {H : Hp}, LcV K a al tb j vs σ D Q l H → SqL K H a al
  | [], _, h => h.1
  | _ :: _, _, h => h.1
theorem c_lcU {a : Addr} {xs : List V} {j : Nat} {vs : List Nat} {Q : VK} (h : Val te σ H (.ref a)) (hx : SqL K H a xs) (k : ∀ D, H D = none → LcV K a xs tb j vs σ D Q xs (upd H D (.lst []))) : tLc (iList K te) (gName j) tYes tb vs σ H Q :=
  h _ ⟨a, rfl, ⟨xs, hx⟩, fun D hD => lc_list (xs := xs) (fun i H' => LcV K a xs tb j vs σ D Q (xs.drop i) H') (k D hD) (fun i H' _ p => LcV.sq p) (fun i x H' hx p => by
    rw [drop_at hx] at p
    exact p.2) (fun H' p => by
    rw [List.drop_length] at p
    exact p.2)⟩
theorem call_list_ofK {X : Cx} {K : PySem.W.Frag} (e : X.K = K) : CallR X (.type "list") (fun xs H Q => ∃ p ys, xs = [.ref p] ∧ (SqL K H p ys ∨ SqT K H p ys) ∧ ∀ l, H l = none → Q (.ref l) (upd H l (.lst ys))) := e ▸ call_list_of
theorem nn_ref {p : Addr} (h : ¬ (V.ref p ≠ V.non)) : False := h fun z => nomatch z
theorem nn_eq {p : Addr} (h : V.ref p = V.non) : False := nomatch h
theorem c_ifx {Q : VK} (k : t σ H fun c H1 => if c = true then te σ H1 Q else tb σ H1 Q) : tIf t te tb σ H Q := k
end
end G
local macro_rules | `(tactic| walk_at "dead") => `(tactic| first | exact G.nn_ref (by assumption) | exact G.nn_eq (by assumption))
namespace G
open PySem PySem.Spec PyProof.Rows L2
theorem c_meth {C : Addr} {m : Str} {sp : Sp} {dvs : List V} {E : XK} {ta : TE} {t : TA} {σ : L2.St} {H : Hp} {Q : VK} {a dx : Addr} {fs : List (Str × V)} (h : Val ta σ H (.ref a)) (ho : H a = some (.ins C dx fs)) (hl : fs.lookup m = none) (k : t σ H fun vs H2 => sp (.ref a :: (vs ++ dvs)) H2 Q E) : tMeth C m sp dvs E ta t σ H Q := h _ ⟨a, dx, fs, rfl, ho, hl, k⟩
theorem s_while {t : TT} {tu tz : TS} {D : Ends} {σ : L2.St} {H : Hp} (Pv : Nat → L2.St → Hp → Prop) (m0 : Nat) (h0 : Pv m0 σ H)
    (hs : ∀ m σ H, Pv m σ H → t σ H fun b H1 => if b = true then ∃ N : L2.St → Hp → Prop, (∀ σ' H', N σ' H' → ∃ m', m' < m ∧ Pv m' σ' H') ∧ tu { D with nx := N, ct := N, bk := tz D } σ H1 else tz D σ H1) : tSeq (tWhile t tu) tz D σ H := ⟨Pv, ⟨m0, h0⟩, hs⟩
end G
namespace G
open PySem PySem.Spec PyProof.Rows L2
theorem s_raise {C : Addr} {E : XK} {tz : TS} {D : Ends} {σ : L2.St} {H : Hp} (k : E (.ref C) none H) : tSeq (fun _ σ H => (fun (_ : L2.St) (H : Hp) (Q : XK) => Q (.ref C) none H) σ H fun cls d H' => (fun cls d (_ : L2.St) H => E cls d H) cls d σ H') tz D σ H := k
end G
/-! ### an object made in the body of a try; suites for one class -/
namespace G
open PySem PySem.Spec PyProof.Rows L2
section
variable {X : Cx} {CX : CXT} {k : Nat} {f C : Addr} {fd : FuncData} {ps : List Str} {sp : Sp} {E : L2.St → XK} {x : Str} {p pos : Pos} {e : Expr} {es : List Expr} {t : TA}
theorem run_makeS {pins : List (Addr × Obj)} {σ : L2.St} {H : Hp} {s : Shared} {Q : VK} {us : List Value} {vs : List V} (M : Mk X.K C f) (F : FnOk X.prog X.w X.K X.mg X.base CX k f fd ps sp) (hr : Room (k + 1) X.A) (hb : Binds X.K fd ps [])
    (hx : PassesAt CX X σ (E σ)) (I : Inv X pins σ H s) (r : Vals vs us)
    (h : ∀ x dx, H x = none → H dx = none → dx ≠ x → sp (.ref x :: vs) (upd (upd H dx (.own x)) x (.ins C dx [])) (fun v H2 => v = .non ∧ Q (.ref x) H2) (E σ)) :
    wpAny (model X.prog X.w) X.A (call (.ref C) us) (EP X pins σ Q) X.xe s := by
  have hq := h (s.heap.objs.size + 1) s.heap.objs.size (I.hok.fresh (Nat.le_succ _)) (I.hok.fresh (Nat.le_refl _)) (Nat.ne_of_lt (Nat.lt_succ_self _))
  have I2 := Inv.made (C := C) I
  have r2 : Vals (V.ref (s.heap.objs.size + 1) :: vs) (Value.ref (s.heap.objs.size + 1) :: us) := .cons rfl r
  have hl : ((Value.ref (s.heap.objs.size + 1) :: us) ++ []).length = ps.length := by
    have e := r2.length
    rw [F.len _ _ _ _ hq] at e
    rw [List.append_nil]
    exact e.symm
  have b := hb _ (Value.ref (s.heap.objs.size + 1) :: us) I2.kIn hl
  rw [List.append_nil] at b
  refine wpAny_call (make_map (f := f) I.kIn M.makes M.init (beq_iff_eq.mp M.fn) (codeAny_mono (F.run _ X.stack _ _ ⟨Value.ref (s.heap.objs.size + 1) :: us, []⟩ (Value.ref (s.heap.objs.size + 1) :: us) _ _ (E σ) (hr.make C us [])
    (I2.env0.make C us []) b r2 hq) fun r s' hq' => ?_))
  cases r with
  | error e => exact hx pins _ _ e s' I2 hq'
  | ok fl =>
    cases fl with
    | ret u =>
      obtain ⟨v, H', I3, rv, ev, q3⟩ := I2.after hq'
      subst ev
      exact ⟨rv, ⟨V.ref (s.heap.objs.size + 1), H', I3, rfl, q3⟩⟩
    | next => exact False.elim hq'
    | brk => exact False.elim hq'
    | cont => exact False.elim hq'
def tMakeS (C : Addr) (sp : Sp) (E : L2.St → XK) (t : TA) : TE := fun σ H Q => t σ H fun vs H1 => ∀ x dx, H1 x = none → H1 dx = none → dx ≠ x →
  sp (.ref x :: vs) (upd (upd H1 dx (.own x)) x (.ins C dx [])) (fun v H2 => v = .non ∧ Q (.ref x) H2) (E σ)
theorem pe_makeS (M : Mk X.K C f) (F : FnOk X.prog X.w X.K X.mg X.base CX k f fd ps sp) (hr : Room (k + 1) X.A) (hg : Gl X x) (hm : X.mg x = some (.ref C)) (hb : Binds X.K fd ps []) (hx : ∀ σ, PassesAt CX X σ (E σ))
    (ha : PA X (e :: es) t) (hdb : (x == ("__debug__" : Str)) = false := by decide) (he : starEach (e :: es) X.env = (false, eval e X.env) :: starEach es X.env := by rfl) (hpl : (backTo pos (starEach es X.env)).any (·.1) = false := by rfl) :
    PE X (.Call (.Name x p) (e :: es) [] pos) (tMakeS C sp E t) := by
  refine ⟨fun pins s σ H Q I h => ?_⟩
  refine wpAny_Call_Name_kw (ld_glob I hg hm ?_ hdb)
  refine PySem.W.callWith_K (h₀ := X.base) I.ok.mod.kin M.kp (thn (ha.run pos pins s σ H _ I h) fun us s1 ⟨vs, H1, I1, r, q⟩ => ⟨I1.kIn, ?_⟩) he hpl
  exact run_makeS M F hr hb (hx σ) I1 r q
theorem c_mkS {σ : L2.St} {H : Hp} {D : Ends} (k : t σ H fun vs H1 => ∀ x dx, H1 x = none → H1 dx = none → dx ≠ x → sp (.ref x :: vs) (upd (upd H1 dx (.own x)) x (.ins C dx [])) (fun v H2 => v = .non ∧ D.nx σ H2) (E σ)) : tDrop (tMakeS C sp E t) D σ H := k
theorem pss_when {l : List Stmt} {t : TS} {p : Prop} (h : p → PSs X l t) : PSs X l (fun D σ H => p ∧ t D σ H) := ⟨fun pins s σ H D I hw => (h hw.1).run pins s σ H D I hw.2⟩
end
end G
namespace X
open PySem PySem.Spec PyProof.Rows L2 G
def topS (i : Nat) : Stmt := PySem.Challenge.pw_segmentfs_k64_layouts_and_addresses.main.body.getD i (.Pass ⟨0, 0, 0, 0⟩)
abbrev st_parts_of : Stmt := topS 13
abbrev st_Layout___init__ : Stmt := inClass (topS 12) 0
abbrev st_address_at : Stmt := topS 14
abbrev st_segment_of : Stmt := topS 15
abbrev st_place_of : Stmt := topS 16
abbrev st_region_start : Stmt := topS 17
abbrev st__law_number : Stmt := topS 19
abbrev st__law_take : Stmt := topS 20
abbrev st__law_layout : Stmt := topS 21
abbrev st__law_is_number : Stmt := topS 22
abbrev st__law_fits : Stmt := topS 23
abbrev st__law_told : Stmt := topS 24
abbrev st__law_any_layout : Stmt := topS 27
abbrev st__law_same : Stmt := topS 28
abbrev st__law_parts : Stmt := topS 29
abbrev st__law_refused : Stmt := topS 25
abbrev st__law_places : Stmt := topS 30
abbrev st__law_asked : Stmt := topS 26
abbrev st_law : Stmt := topS 31
structure Ads where
  a_parts_of : Addr
  d_parts_of : FuncData
  a_Layout___init__ : Addr
  d_Layout___init__ : FuncData
  a_address_at : Addr
  d_address_at : FuncData
  a_segment_of : Addr
  d_segment_of : FuncData
  a_place_of : Addr
  d_place_of : FuncData
  a_region_start : Addr
  d_region_start : FuncData
  a__law_number : Addr
  d__law_number : FuncData
  a__law_take : Addr
  d__law_take : FuncData
  a__law_layout : Addr
  d__law_layout : FuncData
  a__law_is_number : Addr
  d__law_is_number : FuncData
  a__law_fits : Addr
  d__law_fits : FuncData
  a__law_told : Addr
  d__law_told : FuncData
  a__law_any_layout : Addr
  d__law_any_layout : FuncData
  a__law_same : Addr
  d__law_same : FuncData
  a__law_parts : Addr
  d__law_parts : FuncData
  a__law_refused : Addr
  d__law_refused : FuncData
  a__law_places : Addr
  d__law_places : FuncData
  a__law_asked : Addr
  d__law_asked : FuncData
  a_law : Addr
  d_law : FuncData
  c_InvalidFormat : Addr
  c_InvalidImage : Addr
  c_Layout : Addr
  c_OutOfRange : Addr
  c_SegmentError : Addr
  t_HEAD_OCTETS : Tok
  t_LEAST_BLOCKS : Tok
  t_LEAST_SEGMENTS : Tok
  t_MOST_BLOCKS : Tok
  t_MOST_SEGMENTS : Tok
  t_SLOTS : Tok
structure Txt (K : PySem.W.Frag) (mg : Str → Option Value) (A : Ads) : Prop where
  F_parts_of : Fun K "parts_of" "parts_of" st_parts_of A.a_parts_of A.d_parts_of
  b_parts_of : Binds K A.d_parts_of ["number", "size"] []
  g_parts_of : mg "parts_of" = some (.ref A.a_parts_of)
  F_Layout___init__ : Fun K "__init__" "Layout.__init__" st_Layout___init__ A.a_Layout___init__ A.d_Layout___init__
  b_Layout___init__ : Binds K A.d_Layout___init__ ["self", "segments", "segment_blocks", "block_size"] []
  F_address_at : Fun K "address_at" "address_at" st_address_at A.a_address_at A.d_address_at
  b_address_at : Binds K A.d_address_at ["layout", "segment", "place"] []
  g_address_at : mg "address_at" = some (.ref A.a_address_at)
  F_segment_of : Fun K "segment_of" "segment_of" st_segment_of A.a_segment_of A.d_segment_of
  b_segment_of : Binds K A.d_segment_of ["layout", "address"] []
  g_segment_of : mg "segment_of" = some (.ref A.a_segment_of)
  F_place_of : Fun K "place_of" "place_of" st_place_of A.a_place_of A.d_place_of
  b_place_of : Binds K A.d_place_of ["layout", "address"] []
  g_place_of : mg "place_of" = some (.ref A.a_place_of)
  F_region_start : Fun K "region_start" "region_start" st_region_start A.a_region_start A.d_region_start
  b_region_start : Binds K A.d_region_start ["layout", "region"] []
  g_region_start : mg "region_start" = some (.ref A.a_region_start)
  F__law_number : Fun K "_law_number" "_law_number" st__law_number A.a__law_number A.d__law_number
  b__law_number : Binds K A.d__law_number ["_law_script", "_law_k"] []
  g__law_number : mg "_law_number" = some (.ref A.a__law_number)
  F__law_take : Fun K "_law_take" "_law_take" st__law_take A.a__law_take A.d__law_take
  b__law_take : Binds K A.d__law_take ["_law_box", "_law_size"] []
  g__law_take : mg "_law_take" = some (.ref A.a__law_take)
  F__law_layout : Fun K "_law_layout" "_law_layout" st__law_layout A.a__law_layout A.d__law_layout
  b__law_layout : Binds K A.d__law_layout ["_law_digit"] []
  g__law_layout : mg "_law_layout" = some (.ref A.a__law_layout)
  F__law_is_number : Fun K "_law_is_number" "_law_is_number" st__law_is_number A.a__law_is_number A.d__law_is_number
  b__law_is_number : Binds K A.d__law_is_number ["_law_actual"] []
  g__law_is_number : mg "_law_is_number" = some (.ref A.a__law_is_number)
  F__law_fits : Fun K "_law_fits" "_law_fits" st__law_fits A.a__law_fits A.d__law_fits
  b__law_fits : Binds K A.d__law_fits ["_law_segments", "_law_blocks", "_law_size"] []
  g__law_fits : mg "_law_fits" = some (.ref A.a__law_fits)
  F__law_told : Fun K "_law_told" "_law_told" st__law_told A.a__law_told A.d__law_told
  b__law_told : Binds K A.d__law_told ["_law_layout_here", "_law_segments", "_law_blocks", "_law_size"] []
  g__law_told : mg "_law_told" = some (.ref A.a__law_told)
  F__law_any_layout : Fun K "_law_any_layout" "_law_any_layout" st__law_any_layout A.a__law_any_layout A.d__law_any_layout
  b__law_any_layout : Binds K A.d__law_any_layout ["_law_box"] []
  g__law_any_layout : mg "_law_any_layout" = some (.ref A.a__law_any_layout)
  F__law_same : Fun K "_law_same" "_law_same" st__law_same A.a__law_same A.d__law_same
  b__law_same : Binds K A.d__law_same ["_law_actual", "_law_due"] []
  g__law_same : mg "_law_same" = some (.ref A.a__law_same)
  F__law_parts : Fun K "_law_parts" "_law_parts" st__law_parts A.a__law_parts A.d__law_parts
  b__law_parts : Binds K A.d__law_parts ["_law_number_here", "_law_size"] []
  g__law_parts : mg "_law_parts" = some (.ref A.a__law_parts)
  F__law_refused : Fun K "_law_refused" "_law_refused" st__law_refused A.a__law_refused A.d__law_refused
  b__law_refused : Binds K A.d__law_refused ["_law_segments", "_law_blocks", "_law_size"] []
  g__law_refused : mg "_law_refused" = some (.ref A.a__law_refused)
  F__law_places : Fun K "_law_places" "_law_places" st__law_places A.a__law_places A.d__law_places
  b__law_places : Binds K A.d__law_places ["_law_layout_here", "_law_box"] []
  g__law_places : mg "_law_places" = some (.ref A.a__law_places)
  F__law_asked : Fun K "_law_asked" "_law_asked" st__law_asked A.a__law_asked A.d__law_asked
  b__law_asked : Binds K A.d__law_asked ["_law_segments", "_law_blocks", "_law_size"] []
  g__law_asked : mg "_law_asked" = some (.ref A.a__law_asked)
  F_law : Fun K "law" "law" st_law A.a_law A.d_law
  b_law : Binds K A.d_law ["_law_script"] []
  g_law : mg "law" = some (.ref A.a_law)
  g_InvalidFormat : mg "InvalidFormat" = some (.ref A.c_InvalidFormat)
  g_InvalidImage : mg "InvalidImage" = some (.ref A.c_InvalidImage)
  g_Layout : mg "Layout" = some (.ref A.c_Layout)
  cl_Layout : Cls K A.c_Layout
  mk_Layout : Mk K A.c_Layout A.a_Layout___init__
  g_OutOfRange : mg "OutOfRange" = some (.ref A.c_OutOfRange)
  g_SegmentError : mg "SegmentError" = some (.ref A.c_SegmentError)
  xc_InvalidFormat : PySem.W.excIn K A.c_InvalidFormat [.type "ValueError", .type "Exception", .type "BaseException", .type "object"] "ValueError.__new__" = true
  kp_InvalidFormat : PySem.W.keepIn K (.ref A.c_InvalidFormat) = true
  be_InvalidFormat : PySem.W.subIn K (.ref A.c_InvalidFormat) (.type "BaseException") = some true
  ty_InvalidFormat : PySem.W.typeIn K (.ref A.c_InvalidFormat) = some (.type "type")
  na_Layout_block_size : NoAttr K A.c_Layout "block_size"
  na_Layout_device_blocks : NoAttr K A.c_Layout "device_blocks"
  na_Layout_fan : NoAttr K A.c_Layout "fan"
  na_Layout_last_id : NoAttr K A.c_Layout "last_id"
  na_Layout_limit : NoAttr K A.c_Layout "limit"
  na_Layout_payload : NoAttr K A.c_Layout "payload"
  na_Layout_region_blocks : NoAttr K A.c_Layout "region_blocks"
  na_Layout_segment_blocks : NoAttr K A.c_Layout "segment_blocks"
  na_Layout_segments : NoAttr K A.c_Layout "segments"
  k_HEAD_OCTETS : mg "HEAD_OCTETS" = some (.int 16 A.t_HEAD_OCTETS)
  k_LEAST_BLOCKS : mg "LEAST_BLOCKS" = some (.int 16 A.t_LEAST_BLOCKS)
  k_LEAST_SEGMENTS : mg "LEAST_SEGMENTS" = some (.int 4 A.t_LEAST_SEGMENTS)
  k_MOST_BLOCKS : mg "MOST_BLOCKS" = some (.int 32 A.t_MOST_BLOCKS)
  k_MOST_SEGMENTS : mg "MOST_SEGMENTS" = some (.int 16 A.t_MOST_SEGMENTS)
  k_SLOTS : mg "SLOTS" = some (.int 3 A.t_SLOTS)
  z_ValueError : mg "ValueError" = none
  z_bool : mg "bool" = none
  z_int : mg "int" = none
  z_isinstance : mg "isinstance" = none
  z_len : mg "len" = none
  z_range : mg "range" = none
  ec_IF : ExcC K A.c_InvalidFormat
  ko_V : PySem.W.kitOne K (.ref A.c_InvalidFormat) (.type "ValueError") = some true
  ko_O : PySem.W.kitOne K (.ref A.c_InvalidFormat) (.ref A.c_OutOfRange) = some false
  ko_I : PySem.W.kitOne K (.ref A.c_InvalidFormat) (.ref A.c_InvalidImage) = some false
  ko_F : PySem.W.kitOne K (.ref A.c_InvalidFormat) (.ref A.c_InvalidFormat) = some true
  em_S : PySem.W.exmOne K (.ref A.c_InvalidFormat) (.ref A.c_SegmentError) = some true
theorem sc_parts_of : FnScope ["number", "size"] ["number", "size"] (defScope st_parts_of) := ⟨rfl, rfl, rfl, by decide +kernel, rfl, by decide +kernel, by decide +kernel⟩
theorem sc_Layout___init__ : FnScope ["self", "segments", "segment_blocks", "block_size", "numbers"] ["self", "segments", "segment_blocks", "block_size"] (defScope st_Layout___init__) := ⟨rfl, rfl, rfl, by decide +kernel, rfl, by decide +kernel, by decide +kernel⟩
theorem sc_address_at : FnScope ["layout", "segment", "place"] ["layout", "segment", "place"] (defScope st_address_at) := ⟨rfl, rfl, rfl, by decide +kernel, rfl, by decide +kernel, by decide +kernel⟩
theorem sc_segment_of : FnScope ["layout", "address", "first"] ["layout", "address"] (defScope st_segment_of) := ⟨rfl, rfl, rfl, by decide +kernel, rfl, by decide +kernel, by decide +kernel⟩
theorem sc_place_of : FnScope ["layout", "address", "first"] ["layout", "address"] (defScope st_place_of) := ⟨rfl, rfl, rfl, by decide +kernel, rfl, by decide +kernel, by decide +kernel⟩
theorem sc_region_start : FnScope ["layout", "region"] ["layout", "region"] (defScope st_region_start) := ⟨rfl, rfl, rfl, by decide +kernel, rfl, by decide +kernel, by decide +kernel⟩
theorem sc__law_number : FnScope ["_law_script", "_law_k", "_law_cell", "_law_first", "_law_second"] ["_law_script", "_law_k"] (defScope st__law_number) := ⟨rfl, rfl, rfl, by decide +kernel, rfl, by decide +kernel, by decide +kernel⟩
theorem sc__law_take : FnScope ["_law_box", "_law_size", "_law_digit"] ["_law_box", "_law_size"] (defScope st__law_take) := ⟨rfl, rfl, rfl, by decide +kernel, rfl, by decide +kernel, by decide +kernel⟩
theorem sc__law_layout : FnScope ["_law_digit", "_law_sizes", "_law_row"] ["_law_digit"] (defScope st__law_layout) := ⟨rfl, rfl, rfl, by decide +kernel, rfl, by decide +kernel, by decide +kernel⟩
theorem sc__law_is_number : FnScope ["_law_actual"] ["_law_actual"] (defScope st__law_is_number) := ⟨rfl, rfl, rfl, by decide +kernel, rfl, by decide +kernel, by decide +kernel⟩
theorem sc__law_fits : FnScope ["_law_segments", "_law_blocks", "_law_size", "_law_octets"] ["_law_segments", "_law_blocks", "_law_size"] (defScope st__law_fits) := ⟨rfl, rfl, rfl, by decide +kernel, rfl, by decide +kernel, by decide +kernel⟩
theorem sc__law_told : FnScope ["_law_layout_here", "_law_segments", "_law_blocks", "_law_size", "_law_payload", "_law_limit", "_law_last", "_law_octets", "_law_region", "_law_fields", "_law_due", "_law_k"] ["_law_layout_here", "_law_segments", "_law_blocks", "_law_size"] (defScope st__law_told) := ⟨rfl, rfl, rfl, by decide +kernel, rfl, by decide +kernel, by decide +kernel⟩
theorem sc__law_any_layout : FnScope ["_law_box"] ["_law_box"] (defScope st__law_any_layout) := ⟨rfl, rfl, rfl, by decide +kernel, rfl, by decide +kernel, by decide +kernel⟩
theorem sc__law_same : FnScope ["_law_actual", "_law_due"] ["_law_actual", "_law_due"] (defScope st__law_same) := ⟨rfl, rfl, rfl, by decide +kernel, rfl, by decide +kernel, by decide +kernel⟩
theorem sc__law_parts : FnScope ["_law_number_here", "_law_size", "_law_count"] ["_law_number_here", "_law_size"] (defScope st__law_parts) := ⟨rfl, rfl, rfl, by decide +kernel, rfl, by decide +kernel, by decide +kernel⟩
theorem sc__law_refused : FnScope ["_law_segments", "_law_blocks", "_law_size", "e"] ["_law_segments", "_law_blocks", "_law_size"] (defScope st__law_refused) := ⟨rfl, rfl, rfl, by decide +kernel, rfl, by decide +kernel, by decide +kernel⟩
theorem sc__law_places : FnScope ["_law_layout_here", "_law_box", "_law_width", "_law_segment", "_law_place", "_law_first", "_law_address", "_law_number_here", "_law_due_segment", "_law_due_place"] ["_law_layout_here", "_law_box"] (defScope st__law_places) := ⟨rfl, rfl, rfl, by decide +kernel, rfl, by decide +kernel, by decide +kernel⟩
theorem sc__law_asked : FnScope ["_law_segments", "_law_blocks", "_law_size"] ["_law_segments", "_law_blocks", "_law_size"] (defScope st__law_asked) := ⟨rfl, rfl, rfl, by decide +kernel, rfl, by decide +kernel, by decide +kernel⟩
theorem sc_law : FnScope ["_law_script", "_law_box", "_law_sizes", "_law_segments", "_law_blocks", "_law_choice", "_law_size", "_law_number_here"] ["_law_script"] (defScope st_law) := ⟨rfl, rfl, rfl, by decide +kernel, rfl, by decide +kernel, by decide +kernel⟩

/-! ### mathematics of the law's helpers -/
def rowC0 (ns : List Int) (k : Int) : Int := if (ns.length : Int) > 0 then gi ns (k % (ns.length : Int)) else 0
def rowC (ns : List Int) (k : Int) : Int := if rowC0 ns k < 0 then 1 - 2 * rowC0 ns k else rowC0 ns k
def rowA (ns : List Int) (k : Int) : Int := (rowC ns k * 48271 + (k + 1) * 69621 + (ns.length : Int)) % 2147483647
def rowB (ns : List Int) (k : Int) : Int := (rowA ns k * rowA ns k + rowC ns k * 16807 + k) % 2147483629
def rowF (ns : List Int) (k : Int) : Int := if rowC ns k ≥ 1000000000 ∧ k < (ns.length : Int) then rowC ns k else rowB ns k * 2147483647 + (rowA ns k * 40692) % 2147483399
theorem rowF_nn (ns : List Int) (k : Int) : 0 ≤ rowF ns k := by
  unfold rowF
  split
  · omega
  · have h1 : 0 ≤ rowB ns k := Int.emod_nonneg _ (by decide)
    have h2 : 0 ≤ (rowA ns k * 40692) % 2147483399 := Int.emod_nonneg _ (by decide)
    omega
def digF : Int → List Int → List Int
  | _, [] => []
  | r, s :: t => (r % s) :: digF (r / s) t
def digR : Int → List Int → Int
  | r, [] => r
  | r, s :: t => digR (r / s) t
theorem digF_app (r : Int) (a : List Int) (s : Int) : digF r (a ++ [s]) = digF r a ++ [digR r a % s] := by
  induction a generalizing r with
  | nil => rfl
  | cons x a ih => show (r % x) :: digF (r / x) (a ++ [s]) = _; rw [ih]; rfl
theorem digR_app (r : Int) (a : List Int) (s : Int) : digR r (a ++ [s]) = digR r a / s := by
  induction a generalizing r with
  | nil => rfl
  | cons x a ih => show digR (r / x) (a ++ [s]) = _; rw [ih]; rfl
theorem digR_nn (r : Int) (a : List Int) (hr : 0 ≤ r) (h : ∀ s ∈ a, 0 < s) : 0 ≤ digR r a := by
  induction a generalizing r with
  | nil => exact hr
  | cons x a ih => exact ih _ (Int.ediv_nonneg hr (Int.le_of_lt (h x List.mem_cons_self))) fun s hs => h s (List.mem_cons_of_mem _ hs)
theorem take_next {xs : List Int} {i : Nat} {n : Int} (h : xs[i]? = some n) : xs.take (i + 1) = xs.take i ++ [n] := by
  rw [List.take_add_one, h]; rfl
theorem digF_len (r : Int) (a : List Int) : (digF r a).length = a.length := by
  induction a generalizing r with
  | nil => rfl
  | cons x a ih => show (digF (r / x) a).length + 1 = a.length + 1; rw [ih]
theorem mem_at {xs : List Int} {i : Nat} {n : Int} (h : xs[i]? = some n) : n ∈ xs := List.mem_of_getElem? h
theorem at_lt {α : Type} {xs : List α} {i : Nat} {n : α} (h : xs[i]? = some n) : i < xs.length := (List.getElem?_eq_some_iff.mp h).1
/-! a layout by its three sizes -/
structure Lay where
  g : Int
  b : Int
  z : Int
def Lay.pay (l : Lay) : Int := l.b - 1
def Lay.lim (l : Lay) : Int := (l.g - 2) * l.pay
def Lay.last (l : Lay) : Int := l.lim + l.pay
def Lay.reg (l : Lay) : Int := (2 * (4 * l.last + 3 + 3 + l.g) + l.z - 1) / l.z
def Lay.dev (l : Lay) : Int := 2 * l.reg + l.g * l.b
def Lay.ok (l : Lay) : Prop := 4 ≤ l.g ∧ l.g ≤ 16 ∧ 16 ≤ l.b ∧ l.b ≤ 32 ∧ (l.z = 64 ∨ l.z = 128 ∨ l.z = 256) ∧ 16 + 2 * (l.b - 1) + ((l.g - 2) * (l.b - 1) + (l.b - 1) + 8 - 1) / 8 ≤ l.z
instance (l : Lay) : Decidable l.ok := by unfold Lay.ok; infer_instance
theorem lay_least : (⟨4, 16, 64⟩ : Lay).ok := by decide
theorem lay_ok {g b z i : Int} (h1 : 4 ≤ g) (h2 : g ≤ 16) (h3 : 16 ≤ b) (h4 : b ≤ 32) (h5 : z = 64 ∨ z = 128 ∨ z = 256) (e : i = (g - 1) * (b - 1)) (h : ¬ (16 + 2 * (b - 1) + (i + 7) / 8 > z)) : (⟨g, b, z⟩ : Lay).ok := by
  refine ⟨h1, h2, h3, h4, h5, ?_⟩
  show 16 + 2 * (b - 1) + ((g - 2) * (b - 1) + (b - 1) + 8 - 1) / 8 ≤ z
  have e2 : (g - 2) * (b - 1) + (b - 1) = (g - 1) * (b - 1) := by
    have : g - 1 = (g - 2) + 1 := by omega
    rw [this, Int.add_mul, Int.one_mul]
  rw [e2, ← e]
  have : i + 8 - 1 = i + 7 := by omega
  rw [this]; omega
theorem mul_bd {a b c d : Int} (h1 : 0 ≤ a) (h2 : a ≤ c) (h3 : 0 ≤ b) (h4 : b ≤ d) : 0 ≤ a * b ∧ a * b ≤ c * d :=
  ⟨Int.mul_nonneg h1 h3, Int.mul_le_mul h2 h4 h3 (Int.le_trans h1 h2)⟩
theorem Lay.ok.bounds {l : Lay} (h : l.ok) : 45 ≤ l.last ∧ l.last ≤ 465 ∧ 0 < l.reg ∧ l.reg ≤ 100 := by
  obtain ⟨h1, h2, h3, h4, h5, h6⟩ := h
  have hl : l.last = (l.g - 1) * (l.b - 1) := by
    show (l.g - 2) * (l.b - 1) + (l.b - 1) = _
    have : l.g - 1 = (l.g - 2) + 1 := by omega
    rw [this, Int.add_mul, Int.one_mul]
  have b1 := mul_bd (a := l.g - 1) (b := l.b - 1) (c := 15) (d := 31) (by omega) (by omega) (by omega) (by omega)
  have b2 : 3 * 15 ≤ (l.g - 1) * (l.b - 1) := (Int.mul_le_mul (a := 3) (b := 15) (by omega) (by omega) (by omega) (by omega))
  have e1 : 45 ≤ l.last := by omega
  have e2 : l.last ≤ 465 := by omega
  refine ⟨e1, e2, ?_, ?_⟩
  · unfold Lay.reg
    rcases h5 with h | h | h <;> rw [h] <;> omega
  · unfold Lay.reg
    rcases h5 with h | h | h <;> rw [h] <;> omega
theorem gi_rep (n : Nat) (v : Int) : gi (List.replicate n v) 0 = if n = 0 then 0 else v := by
  cases n <;> rfl
theorem rep_bd {n : Nat} {m : Int} (h : 0 < m) : ∀ q ∈ List.replicate n (0 : Int), 0 ≤ q ∧ q < m := fun q hq => by
  rw [List.eq_of_mem_replicate hq]; omega
theorem gi_set0 {t : List Int} {i v : Int} (h : 1 ≤ i) : gi (t.set i.toNat v) 0 = gi t 0 := by
  show (t.set i.toNat v).getD 0 0 = t.getD 0 0
  rw [List.getD_eq_getElem?_getD, List.getD_eq_getElem?_getD, List.getElem?_set_ne (by omega)]
theorem set_bd {t : List Int} {i v m : Int} (h : ∀ q ∈ t, 0 ≤ q ∧ q < m) (h0 : 0 ≤ v) (h1 : v < m) : ∀ q ∈ t.set i.toNat v, 0 ≤ q ∧ q < m := fun q hq => by
  rcases List.mem_or_eq_of_mem_set hq with z | z
  · exact h q z
  · rw [z]; exact ⟨h0, h1⟩

def nmC0 (ns : List Int) (k : Int) : Int := if (ns.length : Int) > 0 then gi ns (k % (ns.length : Int)) else 0
def nmC (ns : List Int) (k : Int) : Int := if nmC0 ns k < 0 then 1 - 2 * nmC0 ns k else nmC0 ns k
def nmA (ns : List Int) (k : Int) : Int := ((nmC ns k + 7) * 48271 + (k + 3) * 69621) % 2147483647
def nmB (ns : List Int) (k : Int) : Int := ((nmA ns k + 11) * 16807 + (nmC ns k + 1) * 40692 + k) % 2147483399
def numK (ns : List Int) (k : Int) : Int := if nmC ns k ≥ 1000000000 ∧ k < (ns.length : Int) then nmC ns k else (nmA ns k * 2147483399 + nmB ns k * 31 + nmC ns k) % 4611686014132420609
theorem numK_nn (ns : List Int) (k : Int) : 0 ≤ numK ns k := by
  unfold numK
  split
  · omega
  · exact Int.emod_nonneg _ (by decide)
theorem told_eqs (l : Lay) : l.pay = l.b - 1 ∧ l.lim = (l.g - 2) * (l.b - 1) ∧ l.last = l.lim + l.pay ∧ l.dev = 2 * l.reg + l.g * l.b := ⟨rfl, rfl, rfl, rfl⟩
theorem reg_step {l : Lay} (h : l.ok) {o oc : Int} (e : oc = 2 * (l.last + 3 * (l.last + 1) + 3 + l.g)) (h1 : o * l.z < oc) : o + 1 ≤ l.reg := by
  unfold Lay.reg
  rcases h.2.2.2.2.1 with z | z | z <;> rw [z] at h1 ⊢ <;> omega
theorem reg_end {l : Lay} (h : l.ok) {o oc : Int} (e : oc = 2 * (l.last + 3 * (l.last + 1) + 3 + l.g)) (h1 : ¬ o * l.z < oc) : l.reg ≤ o := by
  unfold Lay.reg
  rcases h.2.2.2.2.1 with z | z | z <;> rw [z] at h1 ⊢ <;> omega
theorem lay_ok2 {g b z : Int} (h1 : 4 ≤ g) (h2 : g ≤ 16) (h3 : 16 ≤ b) (h4 : b ≤ 32) (h5 : z = 64 ∨ z = 128 ∨ z = 256) (h6 : 16 + 2 * (b - 1) + ((g - 2) * (b - 1) + (b - 1) + 8 - 1) / 8 ≤ z) : (⟨g, b, z⟩ : Lay).ok := ⟨h1, h2, h3, h4, h5, h6⟩
theorem lay_256 {g b : Int} (h1 : 4 ≤ g) (h2 : g ≤ 16) (h3 : 16 ≤ b) (h4 : b ≤ 32) : (⟨g, b, 256⟩ : Lay).ok := by
  refine lay_ok h1 h2 h3 h4 (.inr (.inr rfl)) rfl ?_
  have := mul_bd (a := g - 1) (b := b - 1) (c := 15) (d := 31) (by omega) (by omega) (by omega) (by omega)
  omega
theorem parts_eq {n s : Int} (h : 0 < s) : (if n / s * s < n then n / s + 1 else n / s) = (n + s - 1) / s := by
  have e := Int.emod_add_mul_ediv n s
  have r0 := Int.emod_nonneg n (show s ≠ 0 by omega)
  have r1 := Int.emod_lt_of_pos n h
  have e2 : n / s * s = s * (n / s) := Int.mul_comm _ _
  have e3 : n + s - 1 = (n % s + s - 1) + n / s * s := by omega
  rw [e3, Int.add_mul_ediv_right _ _ (show s ≠ 0 by omega)]
  by_cases hz : n % s = 0
  · rw [if_neg (by omega), hz]
    have : (0 + s - 1) / s = 0 := Int.ediv_eq_zero_of_lt (by omega) (by omega)
    omega
  · rw [if_pos (by omega)]
    have : (n % s + s - 1) / s = 1 := by
      have e4 : n % s + s - 1 = (n % s - 1) + 1 * s := by omega
      rw [e4, Int.add_mul_ediv_right _ _ (show s ≠ 0 by omega), Int.ediv_eq_zero_of_lt (by omega) (by omega)]
      rfl
    omega
theorem kit_own {K : PySem.W.Frag} {D C : Addr} {b : Bool} (h1 : (Value.ref D == Value.ref C) = false) (h2 : PySem.W.isClsIn K C = true) (h3 : PySem.W.typeIn K (.ref C) = some (.type "type")) (h4 : PySem.W.subIn K (.ref D) (.ref C) = some b) : PySem.W.kitOne K (.ref D) (.ref C) = some b := by
  unfold PySem.W.kitOne
  rw [h1, if_neg Bool.false_ne_true]
  have e2 : ((PySem.W.clsIn K C).isSome && PySem.W.typeIn K (.ref C) == some (.type "type")) = true := by
    have h2' : (PySem.W.clsIn K C).isSome = true := h2
    rw [h2', h3] <;> rfl
  show (if ((PySem.W.clsIn K C).isSome && PySem.W.typeIn K (.ref C) == some (.type "type")) = true then PySem.W.subIn K (.ref D) (.ref C) else none) = some b
  rw [if_pos e2]; exact h4
theorem kit_bt {K : PySem.W.Frag} {D : Addr} {T : String} {b : Bool} (h1 : PySem.W.kitMeta T = true) (h4 : PySem.W.subIn K (.ref D) (.type T) = some b) : PySem.W.kitOne K (.ref D) (.type T) = some b := by
  unfold PySem.W.kitOne
  rw [show (Value.ref D == Value.type T) = false from rfl, if_neg Bool.false_ne_true]
  show (if PySem.W.kitMeta T = true then PySem.W.subIn K (.ref D) (.type T) else none) = some b
  rw [if_pos h1]; exact h4
theorem div0 {s : Int} (h : 0 < s) : (0 + s - 1) / s = 0 := Int.ediv_eq_zero_of_lt (by omega) (by omega)
theorem at_in {q g b s p d : Int} (hs0 : 0 ≤ s) (hs1 : s < g) (hp0 : 0 ≤ p) (hp1 : p < b) (hb : 0 < b) (e : d = 2 * q + g * b) : 2 * q ≤ 2 * q + s * b + p ∧ 2 * q + s * b + p < d := by
  have h1 : 0 ≤ s * b := Int.mul_nonneg hs0 (by omega)
  have h2 : (s + 1) * b ≤ g * b := Int.mul_le_mul_of_nonneg_right (by omega) (by omega)
  rw [Int.add_mul, Int.one_mul] at h2
  omega
def segOf (l : Lay) (x : Int) : Int := (x - 2 * l.reg) / l.b
def placeOf (l : Lay) (x : Int) : Int := (x - 2 * l.reg) % l.b
theorem seg_at {l : Lay} {s p : Int} (hp0 : 0 ≤ p) (hp1 : p < l.b) : segOf l (2 * l.reg + s * l.b + p) = s := by
  unfold segOf
  have e : 2 * l.reg + s * l.b + p - 2 * l.reg = p + s * l.b := by omega
  rw [e, Int.add_mul_ediv_right _ _ (show l.b ≠ 0 by omega), Int.ediv_eq_zero_of_lt hp0 hp1, Int.zero_add]
theorem place_at {l : Lay} {s p : Int} (hp0 : 0 ≤ p) (hp1 : p < l.b) : placeOf l (2 * l.reg + s * l.b + p) = p := by
  unfold placeOf
  have e : 2 * l.reg + s * l.b + p - 2 * l.reg = p + s * l.b := by omega
  rw [e, Int.add_mul_emod_self_right, Int.emod_eq_of_lt hp0 hp1]
theorem place_due (l : Lay) (x : Int) : placeOf l x = x - 2 * l.reg - (x - 2 * l.reg) / l.b * l.b := by
  unfold placeOf
  have := Int.emod_add_mul_ediv (x - 2 * l.reg) l.b
  have e := Int.mul_comm l.b ((x - 2 * l.reg) / l.b)
  omega
theorem fits_iff {g b z o : Int} (h1 : 4 ≤ g) (h2 : g ≤ 16) (h3 : 16 ≤ b) (h4 : b ≤ 32) (h5 : z = 64 ∨ z = 128 ∨ z = 256) (h6 : ¬ o * 8 < (g - 1) * (b - 1)) (h7 : o * 8 < (g - 1) * (b - 1) + 8) : (16 + 2 * (b - 1) + o ≤ z) ↔ (⟨g, b, z⟩ : Lay).ok := by
  have e : (g - 2) * (b - 1) + (b - 1) = (g - 1) * (b - 1) := by
    have : g - 1 = (g - 2) + 1 := by omega
    rw [this, Int.add_mul, Int.one_mul]
  have e2 : ((g - 2) * (b - 1) + (b - 1) + 8 - 1) / 8 = o := by rw [e]; omega
  constructor
  · intro h
    refine ⟨h1, h2, h3, h4, h5, ?_⟩
    show 16 + 2 * (b - 1) + ((g - 2) * (b - 1) + (b - 1) + 8 - 1) / 8 ≤ z
    rw [e2]; exact h
  · intro h
    have h8 : 16 + 2 * (b - 1) + ((g - 2) * (b - 1) + (b - 1) + 8 - 1) / 8 ≤ z := h.2.2.2.2.2
    rw [e2] at h8; exact h8

section
variable {P : Program} {w : World} {K : PySem.W.Frag} {mg : Str → Option Value} {base : Heap} {A : Ads}
def sp_parts_of (K : PySem.W.Frag) (A : Ads) : Sp := fun vs H Q _ => ∃ (n s : Int), vs = [V.int n, V.int s] ∧ (0 < s) ∧ (s < 1000000000000000000) ∧ Q (V.int ((n + s - 1) / s)) H
theorem ok_parts_of (T : Txt K mg A) : FnOk P w K mg base CX0 1 A.a_parts_of A.d_parts_of ["number", "size"] (sp_parts_of K A) := by
  refine T.F_parts_of.ok sc_parts_of (fun vs H Q E h => ?_) (fun cdv A' outer s H vs Q E hRm h => ?_)
  · obtain ⟨n, s, rfl, _⟩ := h
    rfl
  · obtain ⟨n, s, rfl, h0, h1, kq⟩ := h
    have hUn := hu_of hRm
    have s0 : Hs [] H [] H := Hs.start H
    refine ⟨_, (pss_cons (ps_ret (pe_op op_fdivW (pe_op op_sub (pe_op op_add (pv 0) (pv 1)) pe_int) (pv 1))) pss_nil), ?_⟩
    refine c_sig [some (V.int n), some (V.int s)] rfl ?_
    refine s_ret (v1 (C := CDivW) (g := fun i j => .int (i / j)) (i := (n + s) - 1) (j := s) (wide_div (b := 64) (by walk_at "side") (by walk_at "side") (by decide) (by decide)) (v0 (g := fun i j => .int (i - j)) (v0 (g := fun i j => .int (i + j)) (vv 0 rfl) (vv 1 rfl)) vc) (vv 1 rfl)) ?_
    exact fin kq (by rfl)
def sp_Layout___init__ (K : PySem.W.Frag) (A : Ads) : Sp := fun vs H Q _ => ∃ (x dx : Addr) (l : Lay), vs = [V.ref x, V.int l.g, V.int l.b, V.int l.z] ∧ (H x = some (.ins A.c_Layout dx [])) ∧ (l.ok) ∧ ∀  (H' : Hp), Hs [x] H [(x, .ins A.c_Layout dx [("segments", V.int l.g), ("segment_blocks", V.int l.b), ("block_size", V.int l.z), ("payload", V.int l.pay), ("limit", V.int l.lim), ("last_id", V.int l.last), ("fan", V.int (l.z / 2)), ("region_blocks", V.int l.reg), ("device_blocks", V.int l.dev)])] H' → Q (V.non) H'
theorem ok_Layout___init__ (T : Txt K mg A) : FnOk P w K mg base CX0 2 A.a_Layout___init__ A.d_Layout___init__ ["self", "segments", "segment_blocks", "block_size"] (sp_Layout___init__ K A) := by
  have G_parts_of : FnOk P w K mg base CX0 1 A.a_parts_of A.d_parts_of ["number", "size"] (sp_parts_of K A) := ok_parts_of T
  refine T.F_Layout___init__.ok sc_Layout___init__ (fun vs H Q E h => ?_) (fun cdv A' outer s H vs Q E hRm h => ?_)
  · obtain ⟨x, dx, l, rfl, _⟩ := h
    rfl
  · obtain ⟨x, dx, l, rfl, hc_x, hl, kq⟩ := h
    have hUn := hu_of hRm
    have s0 : Hs [x] H [(x, .ins A.c_Layout dx [])] H := Hs.start1 hc_x
    refine ⟨_, (pss_cons (ps_if (pw_or (pt_cmpR op_lt (pv 1) (pe_glob (v := .int 4) (by rfl) T.k_LEAST_SEGMENTS (by exact ⟨_, rfl⟩)) (nomark _)) (pw_or1 (pt_cmpR op_gt (pv 1) (pe_glob (v := .int 16) (by rfl) T.k_MOST_SEGMENTS (by exact ⟨_, rfl⟩)) (nomark _)))).pt (pss_cons ps_never pss_nil) pss_nil) (pss_cons (ps_if (pw_or (pt_cmpR op_lt (pv 2) (pe_glob (v := .int 16) (by rfl) T.k_LEAST_BLOCKS (by exact ⟨_, rfl⟩)) (nomark _)) (pw_or1 (pt_cmpR op_gt (pv 2) (pe_glob (v := .int 32) (by rfl) T.k_MOST_BLOCKS (by exact ⟨_, rfl⟩)) (nomark _)))).pt (pss_cons ps_never pss_nil) pss_nil) (pss_cons (ps_if (pt_cmpR op_notIn_seq (pv 3) (pe_tup (pa_cons pe_int (pa_cons pe_int (pa_cons pe_int pa_nil)))) (by with_unfolding_all rfl)) (pss_cons ps_never pss_nil) pss_nil) (pss_cons (ps_fld (pv 0) (pv 1) rfl) (pss_cons (ps_fld (pv 0) (pv 2) rfl) (pss_cons (ps_fld (pv 0) (pv 3) rfl) (pss_cons (ps_fld (pv 0) (pe_op op_sub (pv 2) pe_int) rfl) (pss_cons (ps_fld (pv 0) (pe_op op_mul (pe_op op_sub (pv 1) pe_int) (pe_fld (pv 0) rfl)) rfl) (pss_cons (ps_fld (pv 0) (pe_op op_add (pe_fld (pv 0) rfl) (pe_fld (pv 0) rfl)) rfl) (pss_cons (ps_fld (pv 0) (pe_op op_fdiv (pv 3) pe_int) rfl) (pss_cons (ps_if (pt_cmpR op_gt (pe_op op_add (pe_op op_add (pe_glob (v := .int 16) (by rfl) T.k_HEAD_OCTETS (by exact ⟨_, rfl⟩)) (pe_op op_mul pe_int (pe_fld (pv 0) rfl))) (pe_call G_parts_of (hRm.mono (by decide)) (by rfl) T.g_parts_of T.F_parts_of.kp T.b_parts_of .nil pass0 (pa_cons (pe_fld (pv 0) rfl) (pa_cons pe_int pa_nil)))) (pv 3) (nomark _)) (pss_cons ps_never pss_nil) pss_nil) (pss_cons (ps_set (i := 4) sc_Layout___init__.nd rfl (.inl rfl) (pe_op op_add (pe_op op_add (pe_op op_add (pe_op op_mul (pe_op op_add (pe_glob (v := .int 3) (by rfl) T.k_SLOTS (by exact ⟨_, rfl⟩)) pe_int) (pe_fld (pv 0) rfl)) (pe_glob (v := .int 3) (by rfl) T.k_SLOTS (by exact ⟨_, rfl⟩))) pe_int) (pv 1))) (pss_cons (ps_fld (pv 0) (pe_call G_parts_of (hRm.mono (by decide)) (by rfl) T.g_parts_of T.F_parts_of.kp T.b_parts_of .nil pass0 (pa_cons (pe_op op_mul pe_int (pv 4)) (pa_cons (pv 3) pa_nil))) rfl) (pss_cons (ps_fld (pv 0) (pe_op op_add (pe_op op_mul pe_int (pe_fld (pv 0) rfl)) (pe_op op_mul (pv 1) (pv 2))) rfl) pss_nil)))))))))))))), ?_⟩
    refine c_sig [some (V.ref x), some (V.int l.g), some (V.int l.b), some (V.int l.z), none] rfl ?_
    obtain ⟨hg0, hg1, hb0, hb1, hz, hfit⟩ := hl
    refine s_if (p := (l.g < 4) ∨ (l.g > 16)) (aor (vtest (v0 (g := fun i j => .bl (decide (i < j))) (vv 1 rfl) vc)) (fun hc => (vtest (v0 (g := fun i j => .bl (decide (j < i))) (vv 1 rfl) vc)))) (fun h1 => ?_) (fun h1 => ?_)
    · -- then line 25
      exfalso; walk_at "dead"
    · -- else line 25
      refine s_nxs ?_
      refine s_if (p := (l.b < 16) ∨ (l.b > 32)) (aor (vtest (v0 (g := fun i j => .bl (decide (i < j))) (vv 2 rfl) vc)) (fun hc => (vtest (v0 (g := fun i j => .bl (decide (j < i))) (vv 2 rfl) vc)))) (fun h2 => ?_) (fun h2 => ?_)
      · -- then line 27
        exfalso; walk_at "dead"
      · -- else line 27
        refine s_nxs ?_
        refine c_ifS ?_
        refine c_test ?_
        refine c_op ?_
        obtain ⟨n5, en5⟩ : ∃ n : Int, n = (l.z) := ⟨_, rfl⟩
        refine (vis (vv 3 rfl) (congrArg V.int en5.symm)) _ ?_
        refine c_tup ?_
        refine c_cons ?_
        refine vc _ ?_
        refine c_cons ?_
        refine vc _ ?_
        refine c_cons ?_
        refine vc _ ?_
        refine c_nil ?_
        refine ⟨sz1 (by show 3 ≤ 1000000; decide), fun p6 np6 => ?_⟩
        have s7 : Hs [x] H [(p6, .tup ([V.int 64, V.int 128, V.int 256])), (x, .ins A.c_Layout dx [])] _ := s0.new np6 (.tup ([V.int 64, V.int 128, V.int 256]))
        refine r_notin (ns := ([64, 128, 256] : List Int)) (.inr (s7.t 0 rfl)) ?_
        refine ⟨_, rfl, ?_⟩
        refine c_ite (p := ¬ (n5 ∈ ([64, 128, 256] : List Int))) (fun h4 => ?_) (fun h4 => ?_)
        · -- yes
          simp only [List.mem_cons, List.not_mem_nil, or_false, Decidable.not_not] at h4
          exfalso; walk_at "dead"
        · -- no
          simp only [List.mem_cons, List.not_mem_nil, or_false, Decidable.not_not] at h4
          refine s_nxs ?_
          obtain ⟨n8, en8⟩ : ∃ n : Int, n = (l.g) := ⟨_, rfl⟩
          refine s_fld (fs' := [("segments", V.int n8)]) (vis (vv 1 rfl) (congrArg V.int en8.symm)) (vv 0 rfl) (s7.mem 1 rfl) T.cl_Layout T.na_Layout_segments (by show 0 < 1000; decide) (by rfl) ?_
          have s9 : Hs [x] H [(p6, .tup ([V.int 64, V.int 128, V.int 256])), (x, .ins A.c_Layout dx [("segments", V.int n8)])] _ := s7.wr 1 (.ins A.c_Layout dx [("segments", V.int n8)]) rfl
          obtain ⟨n10, en10⟩ : ∃ n : Int, n = (l.b) := ⟨_, rfl⟩
          refine s_fld (fs' := [("segments", V.int n8), ("segment_blocks", V.int n10)]) (vis (vv 2 rfl) (congrArg V.int en10.symm)) (vv 0 rfl) (s9.mem 1 rfl) T.cl_Layout T.na_Layout_segment_blocks (by show 1 < 1000; decide) (by rfl) ?_
          have s11 : Hs [x] H [(p6, .tup ([V.int 64, V.int 128, V.int 256])), (x, .ins A.c_Layout dx [("segments", V.int n8), ("segment_blocks", V.int n10)])] _ := s9.wr 1 (.ins A.c_Layout dx [("segments", V.int n8), ("segment_blocks", V.int n10)]) rfl
          refine s_fld (fs' := [("segments", V.int n8), ("segment_blocks", V.int n10), ("block_size", V.int n5)]) (vis (vv 3 rfl) (congrArg V.int en5.symm)) (vv 0 rfl) (s11.mem 1 rfl) T.cl_Layout T.na_Layout_block_size (by show 2 < 1000; decide) (by rfl) ?_
          have s12 : Hs [x] H [(p6, .tup ([V.int 64, V.int 128, V.int 256])), (x, .ins A.c_Layout dx [("segments", V.int n8), ("segment_blocks", V.int n10), ("block_size", V.int n5)])] _ := s11.wr 1 (.ins A.c_Layout dx [("segments", V.int n8), ("segment_blocks", V.int n10), ("block_size", V.int n5)]) rfl
          obtain ⟨n13, en13⟩ : ∃ n : Int, n = (l.b - 1) := ⟨_, rfl⟩
          refine s_fld (fs' := [("segments", V.int n8), ("segment_blocks", V.int n10), ("block_size", V.int n5), ("payload", V.int n13)]) (vis (v0 (g := fun i j => .int (i - j)) (vv 2 rfl) vc) (congrArg V.int en13.symm)) (vv 0 rfl) (s12.mem 1 rfl) T.cl_Layout T.na_Layout_payload (by show 3 < 1000; decide) (by rfl) ?_
          have s14 : Hs [x] H [(p6, .tup ([V.int 64, V.int 128, V.int 256])), (x, .ins A.c_Layout dx [("segments", V.int n8), ("segment_blocks", V.int n10), ("block_size", V.int n5), ("payload", V.int n13)])] _ := s12.wr 1 (.ins A.c_Layout dx [("segments", V.int n8), ("segment_blocks", V.int n10), ("block_size", V.int n5), ("payload", V.int n13)]) rfl
          obtain ⟨n15, en15⟩ : ∃ n : Int, n = ((l.g - 2) * n13) := ⟨_, rfl⟩
          refine s_fld (fs' := [("segments", V.int n8), ("segment_blocks", V.int n10), ("block_size", V.int n5), ("payload", V.int n13), ("limit", V.int n15)]) (vis (v1 (C := CMul) (g := fun i j => .int (i * j)) (i := l.g - 2) (j := n13) (by walk_at "cmul2") (v0 (g := fun i j => .int (i - j)) (vv 1 rfl) vc) (vfld (vv 0 rfl) (s14.mem 1 rfl) T.cl_Layout T.na_Layout_payload (by rfl))) (congrArg V.int en15.symm)) (vv 0 rfl) (s14.mem 1 rfl) T.cl_Layout T.na_Layout_limit (by show 4 < 1000; decide) (by rfl) ?_
          have s16 : Hs [x] H [(p6, .tup ([V.int 64, V.int 128, V.int 256])), (x, .ins A.c_Layout dx [("segments", V.int n8), ("segment_blocks", V.int n10), ("block_size", V.int n5), ("payload", V.int n13), ("limit", V.int n15)])] _ := s14.wr 1 (.ins A.c_Layout dx [("segments", V.int n8), ("segment_blocks", V.int n10), ("block_size", V.int n5), ("payload", V.int n13), ("limit", V.int n15)]) rfl
          obtain ⟨n17, en17⟩ : ∃ n : Int, n = (n15 + n13) := ⟨_, rfl⟩
          refine s_fld (fs' := [("segments", V.int n8), ("segment_blocks", V.int n10), ("block_size", V.int n5), ("payload", V.int n13), ("limit", V.int n15), ("last_id", V.int n17)]) (vis (v0 (g := fun i j => .int (i + j)) (vfld (vv 0 rfl) (s16.mem 1 rfl) T.cl_Layout T.na_Layout_limit (by rfl)) (vfld (vv 0 rfl) (s16.mem 1 rfl) T.cl_Layout T.na_Layout_payload (by rfl))) (congrArg V.int en17.symm)) (vv 0 rfl) (s16.mem 1 rfl) T.cl_Layout T.na_Layout_last_id (by show 5 < 1000; decide) (by rfl) ?_
          have s18 : Hs [x] H [(p6, .tup ([V.int 64, V.int 128, V.int 256])), (x, .ins A.c_Layout dx [("segments", V.int n8), ("segment_blocks", V.int n10), ("block_size", V.int n5), ("payload", V.int n13), ("limit", V.int n15), ("last_id", V.int n17)])] _ := s16.wr 1 (.ins A.c_Layout dx [("segments", V.int n8), ("segment_blocks", V.int n10), ("block_size", V.int n5), ("payload", V.int n13), ("limit", V.int n15), ("last_id", V.int n17)]) rfl
          obtain ⟨n19, en19⟩ : ∃ n : Int, n = (l.z / 2) := ⟨_, rfl⟩
          refine s_fld (fs' := [("segments", V.int n8), ("segment_blocks", V.int n10), ("block_size", V.int n5), ("payload", V.int n13), ("limit", V.int n15), ("last_id", V.int n17), ("fan", V.int n19)]) (vis (v1 (C := CDiv) (g := fun i j => .int (i / j)) (i := l.z) (j := 2) ⟨by walk_at "side", by walk_at "side"⟩ (vv 3 rfl) vc) (congrArg V.int en19.symm)) (vv 0 rfl) (s18.mem 1 rfl) T.cl_Layout T.na_Layout_fan (by show 6 < 1000; decide) (by rfl) ?_
          have s20 : Hs [x] H [(p6, .tup ([V.int 64, V.int 128, V.int 256])), (x, .ins A.c_Layout dx [("segments", V.int n8), ("segment_blocks", V.int n10), ("block_size", V.int n5), ("payload", V.int n13), ("limit", V.int n15), ("last_id", V.int n17), ("fan", V.int n19)])] _ := s18.wr 1 (.ins A.c_Layout dx [("segments", V.int n8), ("segment_blocks", V.int n10), ("block_size", V.int n5), ("payload", V.int n13), ("limit", V.int n15), ("last_id", V.int n17), ("fan", V.int n19)]) rfl
          refine s_if (p := ((16 + (2 * n13)) + ((n17 + 8 - 1) / 8)) > l.z) (vtest (v0 (g := fun i j => .bl (decide (j < i))) (v0 (g := fun i j => .int (i + j)) (v0 (g := fun i j => .int (i + j)) vc (v1 (C := CMul) (g := fun i j => .int (i * j)) (i := 2) (j := n13) (.inl (by walk_at "cmul")) vc (vfld (vv 0 rfl) (s20.mem 1 rfl) T.cl_Layout T.na_Layout_payload (by rfl)))) (vcall (va (vfld (vv 0 rfl) (s20.mem 1 rfl) T.cl_Layout T.na_Layout_last_id (by rfl)) (va vc va0)) (fun _ kC => ⟨n17, 8, rfl, (by walk_at "side"), (by walk_at "side"), kC⟩))) (vv 3 rfl))) (fun h21 => ?_) (fun h21 => ?_)
          · -- then line 38
            exfalso; walk_at "dead"
          · -- else line 38
            refine s_nxs ?_
            obtain ⟨n22, en22⟩ : ∃ n : Int, n = ((((4 * n17) + 3) + 3) + l.g) := ⟨_, rfl⟩
            refine s_set [some (V.ref x), some (V.int l.g), some (V.int l.b), some (V.int l.z), some (V.int n22)] (vis (v0 (g := fun i j => .int (i + j)) (v0 (g := fun i j => .int (i + j)) (v0 (g := fun i j => .int (i + j)) (v1 (C := CMul) (g := fun i j => .int (i * j)) (i := 4) (j := n17) (.inl (by walk_at "cmul")) (vis (v0 (g := fun i j => .int (i + j)) vc vc) (w := .int 4) (by rfl)) (vfld (vv 0 rfl) (s20.mem 1 rfl) T.cl_Layout T.na_Layout_last_id (by rfl))) vc) vc) (vv 1 rfl)) (congrArg V.int en22.symm)) rfl ?_
            obtain ⟨n23, en23⟩ : ∃ n : Int, n = (((2 * n22) + l.z - 1) / l.z) := ⟨_, rfl⟩
            refine s_fld (fs' := [("segments", V.int n8), ("segment_blocks", V.int n10), ("block_size", V.int n5), ("payload", V.int n13), ("limit", V.int n15), ("last_id", V.int n17), ("fan", V.int n19), ("region_blocks", V.int n23)]) (vis (vcall (va (v1 (C := CMul) (g := fun i j => .int (i * j)) (i := 2) (j := n22) (.inl (by walk_at "cmul")) vc (vv 4 rfl)) (va (vv 3 rfl) va0)) (fun _ kC => ⟨(2 * n22), l.z, rfl, (by walk_at "side"), (by walk_at "side"), kC⟩)) (congrArg V.int en23.symm)) (vv 0 rfl) (s20.mem 1 rfl) T.cl_Layout T.na_Layout_region_blocks (by show 7 < 1000; decide) (by rfl) ?_
            have s24 : Hs [x] H [(p6, .tup ([V.int 64, V.int 128, V.int 256])), (x, .ins A.c_Layout dx [("segments", V.int n8), ("segment_blocks", V.int n10), ("block_size", V.int n5), ("payload", V.int n13), ("limit", V.int n15), ("last_id", V.int n17), ("fan", V.int n19), ("region_blocks", V.int n23)])] _ := s20.wr 1 (.ins A.c_Layout dx [("segments", V.int n8), ("segment_blocks", V.int n10), ("block_size", V.int n5), ("payload", V.int n13), ("limit", V.int n15), ("last_id", V.int n17), ("fan", V.int n19), ("region_blocks", V.int n23)]) rfl
            obtain ⟨n25, en25⟩ : ∃ n : Int, n = ((2 * n23) + (l.g * l.b)) := ⟨_, rfl⟩
            refine s_fld (fs' := [("segments", V.int n8), ("segment_blocks", V.int n10), ("block_size", V.int n5), ("payload", V.int n13), ("limit", V.int n15), ("last_id", V.int n17), ("fan", V.int n19), ("region_blocks", V.int n23), ("device_blocks", V.int n25)]) (vis (v0 (g := fun i j => .int (i + j)) (v1 (C := CMul) (g := fun i j => .int (i * j)) (i := 2) (j := n23) (.inl (by walk_at "cmul")) vc (vfld (vv 0 rfl) (s24.mem 1 rfl) T.cl_Layout T.na_Layout_region_blocks (by rfl))) (v1 (C := CMul) (g := fun i j => .int (i * j)) (i := l.g) (j := l.b) (by walk_at "cmul2") (vv 1 rfl) (vv 2 rfl))) (congrArg V.int en25.symm)) (vv 0 rfl) (s24.mem 1 rfl) T.cl_Layout T.na_Layout_device_blocks (by show 8 < 1000; decide) (by rfl) ?_
            have s26 : Hs [x] H [(p6, .tup ([V.int 64, V.int 128, V.int 256])), (x, .ins A.c_Layout dx [("segments", V.int n8), ("segment_blocks", V.int n10), ("block_size", V.int n5), ("payload", V.int n13), ("limit", V.int n15), ("last_id", V.int n17), ("fan", V.int n19), ("region_blocks", V.int n23), ("device_blocks", V.int n25)])] _ := s24.wr 1 (.ins A.c_Layout dx [("segments", V.int n8), ("segment_blocks", V.int n10), ("block_size", V.int n5), ("payload", V.int n13), ("limit", V.int n15), ("last_id", V.int n17), ("fan", V.int n19), ("region_blocks", V.int n23), ("device_blocks", V.int n25)]) rfl
            refine s_nx ?_
            have s27 : Hs [x] H [(x, .ins A.c_Layout dx [("segments", V.int l.g), ("segment_blocks", V.int l.b), ("block_size", V.int l.z), ("payload", V.int l.pay), ("limit", V.int l.lim), ("last_id", V.int l.last), ("fan", V.int (l.z / 2)), ("region_blocks", V.int l.reg), ("device_blocks", V.int l.dev)])] _ := (s26.pick [1] (by decide) (by walk_at "finL"))
            exact fin (kq  _ s27 ) (by rfl)
def sp_Layout___init___X (K : PySem.W.Frag) (A : Ads) : Sp := fun vs H Q E => ∃ (x dx : Addr) (g b z : Int), vs = [V.ref x, V.int g, V.int b, V.int z] ∧ (H x = some (.ins A.c_Layout dx [])) ∧ (¬ (⟨g, b, z⟩ : Lay).ok) ∧ ∀  (H' : Hp), Hs [x] H [] H' → E (.ref A.c_InvalidFormat) none H'
theorem ok_Layout___init___X (T : Txt K mg A) : FnOk P w K mg base (L2.CX P w) 2 A.a_Layout___init__ A.d_Layout___init__ ["self", "segments", "segment_blocks", "block_size"] (sp_Layout___init___X K A) := by
  have G_parts_of : FnOk P w K mg base CX0 1 A.a_parts_of A.d_parts_of ["number", "size"] (sp_parts_of K A) := ok_parts_of T
  refine T.F_Layout___init__.okX sc_Layout___init__ (fun vs H Q E h => ?_) (fun cdv A' outer s H vs Q E hRm h => ?_)
  · obtain ⟨x, dx, g, b, z, rfl, _⟩ := h
    rfl
  · obtain ⟨x, dx, g, b, z, rfl, hc_x, hbad, kq⟩ := h
    have hUn := hu_of hRm
    have s0 : Hs [x] H [(x, .ins A.c_Layout dx [])] H := Hs.start1 hc_x
    refine ⟨_, (pss_cons (ps_if (pw_or (pt_cmpR op_lt (pv 1) (pe_glob (v := .int 4) (by rfl) T.k_LEAST_SEGMENTS (by exact ⟨_, rfl⟩)) (nomark _)) (pw_or1 (pt_cmpR op_gt (pv 1) (pe_glob (v := .int 16) (by rfl) T.k_MOST_SEGMENTS (by exact ⟨_, rfl⟩)) (nomark _)))).pt (pss_cons (ps_raise (W := fun cls d _ H => E cls d H) rfl (takes_of rfl rfl rfl rfl) (pmk_own PySem.F.excBase_ValueError T.xc_InvalidFormat T.g_InvalidFormat T.kp_InvalidFormat (raises_own T.be_InvalidFormat T.ty_InvalidFormat) (by exact rfl))) pss_nil) pss_nil) (pss_cons (ps_if (pw_or (pt_cmpR op_lt (pv 2) (pe_glob (v := .int 16) (by rfl) T.k_LEAST_BLOCKS (by exact ⟨_, rfl⟩)) (nomark _)) (pw_or1 (pt_cmpR op_gt (pv 2) (pe_glob (v := .int 32) (by rfl) T.k_MOST_BLOCKS (by exact ⟨_, rfl⟩)) (nomark _)))).pt (pss_cons (ps_raise (W := fun cls d _ H => E cls d H) rfl (takes_of rfl rfl rfl rfl) (pmk_own PySem.F.excBase_ValueError T.xc_InvalidFormat T.g_InvalidFormat T.kp_InvalidFormat (raises_own T.be_InvalidFormat T.ty_InvalidFormat) (by exact rfl))) pss_nil) pss_nil) (pss_cons (ps_if (pt_cmpR op_notIn_seq (pv 3) (pe_tup (pa_cons pe_int (pa_cons pe_int (pa_cons pe_int pa_nil)))) (by with_unfolding_all rfl)) (pss_cons (ps_raise (W := fun cls d _ H => E cls d H) rfl (takes_of rfl rfl rfl rfl) (pmk_own PySem.F.excBase_ValueError T.xc_InvalidFormat T.g_InvalidFormat T.kp_InvalidFormat (raises_own T.be_InvalidFormat T.ty_InvalidFormat) (by exact rfl))) pss_nil) pss_nil) (pss_cons (ps_fld (pv 0) (pv 1) rfl) (pss_cons (ps_fld (pv 0) (pv 2) rfl) (pss_cons (ps_fld (pv 0) (pv 3) rfl) (pss_cons (ps_fld (pv 0) (pe_op op_sub (pv 2) pe_int) rfl) (pss_cons (ps_fld (pv 0) (pe_op op_mul (pe_op op_sub (pv 1) pe_int) (pe_fld (pv 0) rfl)) rfl) (pss_cons (ps_fld (pv 0) (pe_op op_add (pe_fld (pv 0) rfl) (pe_fld (pv 0) rfl)) rfl) (pss_cons (ps_fld (pv 0) (pe_op op_fdiv (pv 3) pe_int) rfl) (pss_cons (ps_if (pt_cmpR op_gt (pe_op op_add (pe_op op_add (pe_glob (v := .int 16) (by rfl) T.k_HEAD_OCTETS (by exact ⟨_, rfl⟩)) (pe_op op_mul pe_int (pe_fld (pv 0) rfl))) (pe_call G_parts_of (hRm.mono (by decide)) (by rfl) T.g_parts_of T.F_parts_of.kp T.b_parts_of .nil pass0 (pa_cons (pe_fld (pv 0) rfl) (pa_cons pe_int pa_nil)))) (pv 3) (nomark _)) (pss_cons (ps_raise (W := fun cls d _ H => E cls d H) rfl (takes_of rfl rfl rfl rfl) (pmk_own PySem.F.excBase_ValueError T.xc_InvalidFormat T.g_InvalidFormat T.kp_InvalidFormat (raises_own T.be_InvalidFormat T.ty_InvalidFormat) (by exact rfl))) pss_nil) pss_nil) (pss_cons (ps_set (i := 4) sc_Layout___init__.nd rfl (.inl rfl) (pe_op op_add (pe_op op_add (pe_op op_add (pe_op op_mul (pe_op op_add (pe_glob (v := .int 3) (by rfl) T.k_SLOTS (by exact ⟨_, rfl⟩)) pe_int) (pe_fld (pv 0) rfl)) (pe_glob (v := .int 3) (by rfl) T.k_SLOTS (by exact ⟨_, rfl⟩))) pe_int) (pv 1))) (pss_cons (ps_fld (pv 0) (pe_call G_parts_of (hRm.mono (by decide)) (by rfl) T.g_parts_of T.F_parts_of.kp T.b_parts_of .nil pass0 (pa_cons (pe_op op_mul pe_int (pv 4)) (pa_cons (pv 3) pa_nil))) rfl) (pss_cons (ps_fld (pv 0) (pe_op op_add (pe_op op_mul pe_int (pe_fld (pv 0) rfl)) (pe_op op_mul (pv 1) (pv 2))) rfl) pss_nil)))))))))))))), ?_⟩
    refine c_sig [some (V.ref x), some (V.int g), some (V.int b), some (V.int z), none] rfl ?_
    refine s_if (p := (g < 4) ∨ (g > 16)) (aor (vtest (v0 (g := fun i j => .bl (decide (i < j))) (vv 1 rfl) vc)) (fun hc => (vtest (v0 (g := fun i j => .bl (decide (j < i))) (vv 1 rfl) vc)))) (fun h1 => ?_) (fun h1 => ?_)
    · -- then line 25
      refine s_raise ?_
      exact kq _ (s0.pick [] (by decide) rfl)
    · -- else line 25
      refine s_nxs ?_
      refine s_if (p := (b < 16) ∨ (b > 32)) (aor (vtest (v0 (g := fun i j => .bl (decide (i < j))) (vv 2 rfl) vc)) (fun hc => (vtest (v0 (g := fun i j => .bl (decide (j < i))) (vv 2 rfl) vc)))) (fun h2 => ?_) (fun h2 => ?_)
      · -- then line 27
        refine s_raise ?_
        exact kq _ (s0.pick [] (by decide) rfl)
      · -- else line 27
        refine s_nxs ?_
        refine c_ifS ?_
        refine c_test ?_
        refine c_op ?_
        refine (vv 3 rfl) _ ?_
        refine c_tup ?_
        refine c_cons ?_
        refine vc _ ?_
        refine c_cons ?_
        refine vc _ ?_
        refine c_cons ?_
        refine vc _ ?_
        refine c_nil ?_
        refine ⟨sz1 (by show 3 ≤ 1000000; decide), fun p5 np5 => ?_⟩
        have s6 : Hs [x] H [(p5, .tup ([V.int 64, V.int 128, V.int 256])), (x, .ins A.c_Layout dx [])] _ := s0.new np5 (.tup ([V.int 64, V.int 128, V.int 256]))
        refine r_notin (ns := ([64, 128, 256] : List Int)) (.inr (s6.t 0 rfl)) ?_
        refine ⟨_, rfl, ?_⟩
        refine c_ite (p := ¬ (z ∈ ([64, 128, 256] : List Int))) (fun h4 => ?_) (fun h4 => ?_)
        · -- yes
          simp only [List.mem_cons, List.not_mem_nil, or_false, Decidable.not_not] at h4
          refine s_raise ?_
          exact kq _ (s6.pick [] (by decide) rfl)
        · -- no
          simp only [List.mem_cons, List.not_mem_nil, or_false, Decidable.not_not] at h4
          refine s_nxs ?_
          refine s_fld (fs' := [("segments", V.int g)]) (vv 1 rfl) (vv 0 rfl) (s6.mem 1 rfl) T.cl_Layout T.na_Layout_segments (by show 0 < 1000; decide) (by rfl) ?_
          have s7 : Hs [x] H [(p5, .tup ([V.int 64, V.int 128, V.int 256])), (x, .ins A.c_Layout dx [("segments", V.int g)])] _ := s6.wr 1 (.ins A.c_Layout dx [("segments", V.int g)]) rfl
          refine s_fld (fs' := [("segments", V.int g), ("segment_blocks", V.int b)]) (vv 2 rfl) (vv 0 rfl) (s7.mem 1 rfl) T.cl_Layout T.na_Layout_segment_blocks (by show 1 < 1000; decide) (by rfl) ?_
          have s8 : Hs [x] H [(p5, .tup ([V.int 64, V.int 128, V.int 256])), (x, .ins A.c_Layout dx [("segments", V.int g), ("segment_blocks", V.int b)])] _ := s7.wr 1 (.ins A.c_Layout dx [("segments", V.int g), ("segment_blocks", V.int b)]) rfl
          refine s_fld (fs' := [("segments", V.int g), ("segment_blocks", V.int b), ("block_size", V.int z)]) (vv 3 rfl) (vv 0 rfl) (s8.mem 1 rfl) T.cl_Layout T.na_Layout_block_size (by show 2 < 1000; decide) (by rfl) ?_
          have s9 : Hs [x] H [(p5, .tup ([V.int 64, V.int 128, V.int 256])), (x, .ins A.c_Layout dx [("segments", V.int g), ("segment_blocks", V.int b), ("block_size", V.int z)])] _ := s8.wr 1 (.ins A.c_Layout dx [("segments", V.int g), ("segment_blocks", V.int b), ("block_size", V.int z)]) rfl
          obtain ⟨n10, en10⟩ : ∃ n : Int, n = (b - 1) := ⟨_, rfl⟩
          refine s_fld (fs' := [("segments", V.int g), ("segment_blocks", V.int b), ("block_size", V.int z), ("payload", V.int n10)]) (vis (v0 (g := fun i j => .int (i - j)) (vv 2 rfl) vc) (congrArg V.int en10.symm)) (vv 0 rfl) (s9.mem 1 rfl) T.cl_Layout T.na_Layout_payload (by show 3 < 1000; decide) (by rfl) ?_
          have s11 : Hs [x] H [(p5, .tup ([V.int 64, V.int 128, V.int 256])), (x, .ins A.c_Layout dx [("segments", V.int g), ("segment_blocks", V.int b), ("block_size", V.int z), ("payload", V.int n10)])] _ := s9.wr 1 (.ins A.c_Layout dx [("segments", V.int g), ("segment_blocks", V.int b), ("block_size", V.int z), ("payload", V.int n10)]) rfl
          obtain ⟨n12, en12⟩ : ∃ n : Int, n = ((g - 2) * n10) := ⟨_, rfl⟩
          refine s_fld (fs' := [("segments", V.int g), ("segment_blocks", V.int b), ("block_size", V.int z), ("payload", V.int n10), ("limit", V.int n12)]) (vis (v1 (C := CMul) (g := fun i j => .int (i * j)) (i := g - 2) (j := n10) (by walk_at "cmul2") (v0 (g := fun i j => .int (i - j)) (vv 1 rfl) vc) (vfld (vv 0 rfl) (s11.mem 1 rfl) T.cl_Layout T.na_Layout_payload (by rfl))) (congrArg V.int en12.symm)) (vv 0 rfl) (s11.mem 1 rfl) T.cl_Layout T.na_Layout_limit (by show 4 < 1000; decide) (by rfl) ?_
          have s13 : Hs [x] H [(p5, .tup ([V.int 64, V.int 128, V.int 256])), (x, .ins A.c_Layout dx [("segments", V.int g), ("segment_blocks", V.int b), ("block_size", V.int z), ("payload", V.int n10), ("limit", V.int n12)])] _ := s11.wr 1 (.ins A.c_Layout dx [("segments", V.int g), ("segment_blocks", V.int b), ("block_size", V.int z), ("payload", V.int n10), ("limit", V.int n12)]) rfl
          obtain ⟨n14, en14⟩ : ∃ n : Int, n = (n12 + n10) := ⟨_, rfl⟩
          refine s_fld (fs' := [("segments", V.int g), ("segment_blocks", V.int b), ("block_size", V.int z), ("payload", V.int n10), ("limit", V.int n12), ("last_id", V.int n14)]) (vis (v0 (g := fun i j => .int (i + j)) (vfld (vv 0 rfl) (s13.mem 1 rfl) T.cl_Layout T.na_Layout_limit (by rfl)) (vfld (vv 0 rfl) (s13.mem 1 rfl) T.cl_Layout T.na_Layout_payload (by rfl))) (congrArg V.int en14.symm)) (vv 0 rfl) (s13.mem 1 rfl) T.cl_Layout T.na_Layout_last_id (by show 5 < 1000; decide) (by rfl) ?_
          have s15 : Hs [x] H [(p5, .tup ([V.int 64, V.int 128, V.int 256])), (x, .ins A.c_Layout dx [("segments", V.int g), ("segment_blocks", V.int b), ("block_size", V.int z), ("payload", V.int n10), ("limit", V.int n12), ("last_id", V.int n14)])] _ := s13.wr 1 (.ins A.c_Layout dx [("segments", V.int g), ("segment_blocks", V.int b), ("block_size", V.int z), ("payload", V.int n10), ("limit", V.int n12), ("last_id", V.int n14)]) rfl
          obtain ⟨n16, en16⟩ : ∃ n : Int, n = (z / 2) := ⟨_, rfl⟩
          refine s_fld (fs' := [("segments", V.int g), ("segment_blocks", V.int b), ("block_size", V.int z), ("payload", V.int n10), ("limit", V.int n12), ("last_id", V.int n14), ("fan", V.int n16)]) (vis (v1 (C := CDiv) (g := fun i j => .int (i / j)) (i := z) (j := 2) ⟨by walk_at "side", by walk_at "side"⟩ (vv 3 rfl) vc) (congrArg V.int en16.symm)) (vv 0 rfl) (s15.mem 1 rfl) T.cl_Layout T.na_Layout_fan (by show 6 < 1000; decide) (by rfl) ?_
          have s17 : Hs [x] H [(p5, .tup ([V.int 64, V.int 128, V.int 256])), (x, .ins A.c_Layout dx [("segments", V.int g), ("segment_blocks", V.int b), ("block_size", V.int z), ("payload", V.int n10), ("limit", V.int n12), ("last_id", V.int n14), ("fan", V.int n16)])] _ := s15.wr 1 (.ins A.c_Layout dx [("segments", V.int g), ("segment_blocks", V.int b), ("block_size", V.int z), ("payload", V.int n10), ("limit", V.int n12), ("last_id", V.int n14), ("fan", V.int n16)]) rfl
          refine s_if (p := ((16 + (2 * n10)) + ((n14 + 8 - 1) / 8)) > z) (vtest (v0 (g := fun i j => .bl (decide (j < i))) (v0 (g := fun i j => .int (i + j)) (v0 (g := fun i j => .int (i + j)) vc (v1 (C := CMul) (g := fun i j => .int (i * j)) (i := 2) (j := n10) (.inl (by walk_at "cmul")) vc (vfld (vv 0 rfl) (s17.mem 1 rfl) T.cl_Layout T.na_Layout_payload (by rfl)))) (vcall (va (vfld (vv 0 rfl) (s17.mem 1 rfl) T.cl_Layout T.na_Layout_last_id (by rfl)) (va vc va0)) (fun _ kC => ⟨n14, 8, rfl, (by walk_at "side"), (by walk_at "side"), kC⟩))) (vv 3 rfl))) (fun h18 => ?_) (fun h18 => ?_)
          · -- then line 38
            refine s_raise ?_
            exact kq _ (s17.pick [] (by decide) rfl)
          · -- else line 38
            refine s_nxs ?_
            obtain ⟨n19, en19⟩ : ∃ n : Int, n = ((((4 * n14) + 3) + 3) + g) := ⟨_, rfl⟩
            refine s_set [some (V.ref x), some (V.int g), some (V.int b), some (V.int z), some (V.int n19)] (vis (v0 (g := fun i j => .int (i + j)) (v0 (g := fun i j => .int (i + j)) (v0 (g := fun i j => .int (i + j)) (v1 (C := CMul) (g := fun i j => .int (i * j)) (i := 4) (j := n14) (.inl (by walk_at "cmul")) (vis (v0 (g := fun i j => .int (i + j)) vc vc) (w := .int 4) (by rfl)) (vfld (vv 0 rfl) (s17.mem 1 rfl) T.cl_Layout T.na_Layout_last_id (by rfl))) vc) vc) (vv 1 rfl)) (congrArg V.int en19.symm)) rfl ?_
            obtain ⟨n20, en20⟩ : ∃ n : Int, n = (((2 * n19) + z - 1) / z) := ⟨_, rfl⟩
            refine s_fld (fs' := [("segments", V.int g), ("segment_blocks", V.int b), ("block_size", V.int z), ("payload", V.int n10), ("limit", V.int n12), ("last_id", V.int n14), ("fan", V.int n16), ("region_blocks", V.int n20)]) (vis (vcall (va (v1 (C := CMul) (g := fun i j => .int (i * j)) (i := 2) (j := n19) (.inl (by walk_at "cmul")) vc (vv 4 rfl)) (va (vv 3 rfl) va0)) (fun _ kC => ⟨(2 * n19), z, rfl, (by walk_at "side"), (by walk_at "side"), kC⟩)) (congrArg V.int en20.symm)) (vv 0 rfl) (s17.mem 1 rfl) T.cl_Layout T.na_Layout_region_blocks (by show 7 < 1000; decide) (by rfl) ?_
            have s21 : Hs [x] H [(p5, .tup ([V.int 64, V.int 128, V.int 256])), (x, .ins A.c_Layout dx [("segments", V.int g), ("segment_blocks", V.int b), ("block_size", V.int z), ("payload", V.int n10), ("limit", V.int n12), ("last_id", V.int n14), ("fan", V.int n16), ("region_blocks", V.int n20)])] _ := s17.wr 1 (.ins A.c_Layout dx [("segments", V.int g), ("segment_blocks", V.int b), ("block_size", V.int z), ("payload", V.int n10), ("limit", V.int n12), ("last_id", V.int n14), ("fan", V.int n16), ("region_blocks", V.int n20)]) rfl
            obtain ⟨n22, en22⟩ : ∃ n : Int, n = ((2 * n20) + (g * b)) := ⟨_, rfl⟩
            refine s_fld (fs' := [("segments", V.int g), ("segment_blocks", V.int b), ("block_size", V.int z), ("payload", V.int n10), ("limit", V.int n12), ("last_id", V.int n14), ("fan", V.int n16), ("region_blocks", V.int n20), ("device_blocks", V.int n22)]) (vis (v0 (g := fun i j => .int (i + j)) (v1 (C := CMul) (g := fun i j => .int (i * j)) (i := 2) (j := n20) (.inl (by walk_at "cmul")) vc (vfld (vv 0 rfl) (s21.mem 1 rfl) T.cl_Layout T.na_Layout_region_blocks (by rfl))) (v1 (C := CMul) (g := fun i j => .int (i * j)) (i := g) (j := b) (by walk_at "cmul2") (vv 1 rfl) (vv 2 rfl))) (congrArg V.int en22.symm)) (vv 0 rfl) (s21.mem 1 rfl) T.cl_Layout T.na_Layout_device_blocks (by show 8 < 1000; decide) (by rfl) ?_
            have s23 : Hs [x] H [(p5, .tup ([V.int 64, V.int 128, V.int 256])), (x, .ins A.c_Layout dx [("segments", V.int g), ("segment_blocks", V.int b), ("block_size", V.int z), ("payload", V.int n10), ("limit", V.int n12), ("last_id", V.int n14), ("fan", V.int n16), ("region_blocks", V.int n20), ("device_blocks", V.int n22)])] _ := s21.wr 1 (.ins A.c_Layout dx [("segments", V.int g), ("segment_blocks", V.int b), ("block_size", V.int z), ("payload", V.int n10), ("limit", V.int n12), ("last_id", V.int n14), ("fan", V.int n16), ("region_blocks", V.int n20), ("device_blocks", V.int n22)]) rfl
            refine s_nx ?_
            exfalso; subst_vars; exact hbad (lay_ok2 (by omega) (by omega) (by omega) (by omega) (by omega) (by omega))
def sp_address_at (K : PySem.W.Frag) (A : Ads) : Sp := fun vs H Q _ => ∃ (x dx : Addr) (l : Lay) (sg pl : Int), vs = [V.ref x, V.int sg, V.int pl] ∧ (H x = some (.ins A.c_Layout dx [("segments", V.int l.g), ("segment_blocks", V.int l.b), ("block_size", V.int l.z), ("payload", V.int l.pay), ("limit", V.int l.lim), ("last_id", V.int l.last), ("fan", V.int (l.z / 2)), ("region_blocks", V.int l.reg), ("device_blocks", V.int l.dev)])) ∧ (l.ok) ∧ (-100000 ≤ sg) ∧ (sg ≤ 100000) ∧ (-100000 ≤ pl) ∧ (pl ≤ 100000) ∧ Q (V.int (2 * l.reg + sg * l.b + pl)) H
theorem ok_address_at (T : Txt K mg A) : FnOk P w K mg base CX0 1 A.a_address_at A.d_address_at ["layout", "segment", "place"] (sp_address_at K A) := by
  refine T.F_address_at.ok sc_address_at (fun vs H Q E h => ?_) (fun cdv A' outer s H vs Q E hRm h => ?_)
  · obtain ⟨x, dx, l, sg, pl, rfl, _⟩ := h
    rfl
  · obtain ⟨x, dx, l, sg, pl, rfl, hL, hok, hs0, hs1, hp0, hp1, kq⟩ := h
    have hUn := hu_of hRm
    have s0 : Hs [] H [] H := Hs.start H
    refine ⟨_, (pss_cons (ps_ret (pe_op op_add (pe_op op_add (pe_op op_mul pe_int (pe_fld (pv 0) rfl)) (pe_op op_mul (pv 1) (pe_fld (pv 0) rfl))) (pv 2))) pss_nil), ?_⟩
    refine c_sig [some (V.ref x), some (V.int sg), some (V.int pl)] rfl ?_
    obtain ⟨hg0, hg1, hb0, hb1, hz, hfit⟩ := hok
    refine s_ret (v0 (g := fun i j => .int (i + j)) (v0 (g := fun i j => .int (i + j)) (v1 (C := CMul) (g := fun i j => .int (i * j)) (i := 2) (j := l.reg) (.inl (by walk_at "cmul")) vc (vfld (vv 0 rfl) (s0.same _ _ hL) T.cl_Layout T.na_Layout_region_blocks (by rfl))) (v1 (C := CMul) (g := fun i j => .int (i * j)) (i := sg) (j := l.b) (by walk_at "cmul2") (vv 1 rfl) (vfld (vv 0 rfl) (s0.same _ _ hL) T.cl_Layout T.na_Layout_segment_blocks (by rfl)))) (vv 2 rfl)) ?_
    exact fin kq (by rfl)
def sp_segment_of_0 (K : PySem.W.Frag) (A : Ads) : Sp := fun vs H Q _ => ∃ (x dx : Addr) (l : Lay) (ad : Int), vs = [V.ref x, V.int ad] ∧ (H x = some (.ins A.c_Layout dx [("segments", V.int l.g), ("segment_blocks", V.int l.b), ("block_size", V.int l.z), ("payload", V.int l.pay), ("limit", V.int l.lim), ("last_id", V.int l.last), ("fan", V.int (l.z / 2)), ("region_blocks", V.int l.reg), ("device_blocks", V.int l.dev)])) ∧ (l.ok) ∧ (2 * l.reg ≤ ad ∧ ad < l.dev) ∧ ∀  (H' : Hp), Hs [] H [] H' → Q (V.int (segOf l ad)) H'
def sp_segment_of_1 (K : PySem.W.Frag) (A : Ads) : Sp := fun vs H Q _ => ∃ (x dx : Addr) (l : Lay) (ad : Int), vs = [V.ref x, V.int ad] ∧ (H x = some (.ins A.c_Layout dx [("segments", V.int l.g), ("segment_blocks", V.int l.b), ("block_size", V.int l.z), ("payload", V.int l.pay), ("limit", V.int l.lim), ("last_id", V.int l.last), ("fan", V.int (l.z / 2)), ("region_blocks", V.int l.reg), ("device_blocks", V.int l.dev)])) ∧ (l.ok) ∧ (¬ (2 * l.reg ≤ ad ∧ ad < l.dev)) ∧ ∀  (H' : Hp), Hs [] H [] H' → Q (V.non) H'
def sp_segment_of (K : PySem.W.Frag) (A : Ads) : Sp := fun vs H Q E => sp_segment_of_0 K A vs H Q E ∨ sp_segment_of_1 K A vs H Q E
theorem ok_segment_of (T : Txt K mg A) : FnOk P w K mg base CX0 1 A.a_segment_of A.d_segment_of ["layout", "address"] (sp_segment_of K A) := by
  refine T.F_segment_of.ok sc_segment_of (fun vs H Q E h => ?_) (fun cdv A' outer s H vs Q E hRm h => ?_)
  · rcases h with h | h
    · obtain ⟨x, dx, l, ad, rfl, _⟩ := h
      rfl
    · obtain ⟨x, dx, l, ad, rfl, _⟩ := h
      rfl
  · rcases h with h | h
    · obtain ⟨x, dx, l, ad, rfl, hL, hok, hin, kq⟩ := h
      have hUn := hu_of hRm
      have s0 : Hs [] H [] H := Hs.start H
      refine ⟨_, (pss_cons (ps_set (i := 2) sc_segment_of.nd rfl (.inl rfl) (pe_op op_mul pe_int (pe_fld (pv 0) rfl))) (pss_cons (ps_if (pw_or (pt_cmpR op_lt (pv 1) (pv 2) (nomark _)) (pw_or1 (pt_cmpR op_ge (pv 1) (pe_fld (pv 0) rfl) (nomark _)))).pt (pss_cons (ps_ret pe_non) pss_nil) pss_nil) (pss_cons (ps_ret (pe_op op_fdiv (pe_op op_sub (pv 1) (pv 2)) (pe_fld (pv 0) rfl))) pss_nil))), ?_⟩
      refine c_sig [some (V.ref x), some (V.int ad), none] rfl ?_
      have hlb : 16 ≤ l.b ∧ l.b ≤ 32 := ⟨hok.2.2.1, hok.2.2.2.1⟩
      obtain ⟨n1, en1⟩ : ∃ n : Int, n = (2 * l.reg) := ⟨_, rfl⟩
      refine s_set [some (V.ref x), some (V.int ad), some (V.int n1)] (vis (v1 (C := CMul) (g := fun i j => .int (i * j)) (i := 2) (j := l.reg) (.inl (by walk_at "cmul")) vc (vfld (vv 0 rfl) (s0.same _ _ hL) T.cl_Layout T.na_Layout_region_blocks (by rfl))) (congrArg V.int en1.symm)) rfl ?_
      refine s_if (p := (ad < n1) ∨ (ad ≥ l.dev)) (aor (vtest (v0 (g := fun i j => .bl (decide (i < j))) (vv 1 rfl) (vv 2 rfl))) (fun hc => (vtest (v0 (g := fun i j => .bl (decide (j ≤ i))) (vv 1 rfl) (vfld (vv 0 rfl) (s0.same _ _ hL) T.cl_Layout T.na_Layout_device_blocks (by rfl)))))) (fun h2 => ?_) (fun h2 => ?_)
      · -- then line 49
        refine s_ret vc ?_
        exfalso; omega
      · -- else line 49
        refine s_nxs ?_
        refine s_ret (v1 (C := CDiv) (g := fun i j => .int (i / j)) (i := ad - n1) (j := l.b) ⟨by walk_at "side", by walk_at "side"⟩ (v0 (g := fun i j => .int (i - j)) (vv 1 rfl) (vv 2 rfl)) (vfld (vv 0 rfl) (s0.same _ _ hL) T.cl_Layout T.na_Layout_segment_blocks (by rfl))) ?_
        have s3 : Hs [] H [] _ := (s0.pick [] (by decide) (by walk_at "finL"))
        exact fin (kq  _ s3 ) (by first | rfl | (subst_vars; rfl))
    · obtain ⟨x, dx, l, ad, rfl, hL, hok, hout, kq⟩ := h
      have hUn := hu_of hRm
      have s0 : Hs [] H [] H := Hs.start H
      refine ⟨_, (pss_cons (ps_set (i := 2) sc_segment_of.nd rfl (.inl rfl) (pe_op op_mul pe_int (pe_fld (pv 0) rfl))) (pss_cons (ps_if (pw_or (pt_cmpR op_lt (pv 1) (pv 2) (nomark _)) (pw_or1 (pt_cmpR op_ge (pv 1) (pe_fld (pv 0) rfl) (nomark _)))).pt (pss_cons (ps_ret pe_non) pss_nil) pss_nil) (pss_cons (ps_ret (pe_op op_fdiv (pe_op op_sub (pv 1) (pv 2)) (pe_fld (pv 0) rfl))) pss_nil))), ?_⟩
      refine c_sig [some (V.ref x), some (V.int ad), none] rfl ?_
      have hlb : 16 ≤ l.b ∧ l.b ≤ 32 := ⟨hok.2.2.1, hok.2.2.2.1⟩
      obtain ⟨n4, en4⟩ : ∃ n : Int, n = (2 * l.reg) := ⟨_, rfl⟩
      refine s_set [some (V.ref x), some (V.int ad), some (V.int n4)] (vis (v1 (C := CMul) (g := fun i j => .int (i * j)) (i := 2) (j := l.reg) (.inl (by walk_at "cmul")) vc (vfld (vv 0 rfl) (s0.same _ _ hL) T.cl_Layout T.na_Layout_region_blocks (by rfl))) (congrArg V.int en4.symm)) rfl ?_
      refine s_if (p := (ad < n4) ∨ (ad ≥ l.dev)) (aor (vtest (v0 (g := fun i j => .bl (decide (i < j))) (vv 1 rfl) (vv 2 rfl))) (fun hc => (vtest (v0 (g := fun i j => .bl (decide (j ≤ i))) (vv 1 rfl) (vfld (vv 0 rfl) (s0.same _ _ hL) T.cl_Layout T.na_Layout_device_blocks (by rfl)))))) (fun h5 => ?_) (fun h5 => ?_)
      · -- then line 49
        refine s_ret vc ?_
        have s6 : Hs [] H [] _ := (s0.pick [] (by decide) (by walk_at "finL"))
        exact fin (kq  _ s6 ) (by first | rfl | (subst_vars; rfl))
      · -- else line 49
        refine s_nxs ?_
        refine s_ret (v1 (C := CDiv) (g := fun i j => .int (i / j)) (i := ad - n4) (j := l.b) ⟨by walk_at "side", by walk_at "side"⟩ (v0 (g := fun i j => .int (i - j)) (vv 1 rfl) (vv 2 rfl)) (vfld (vv 0 rfl) (s0.same _ _ hL) T.cl_Layout T.na_Layout_segment_blocks (by rfl))) ?_
        exfalso; omega
def sp_place_of_0 (K : PySem.W.Frag) (A : Ads) : Sp := fun vs H Q _ => ∃ (x dx : Addr) (l : Lay) (ad : Int), vs = [V.ref x, V.int ad] ∧ (H x = some (.ins A.c_Layout dx [("segments", V.int l.g), ("segment_blocks", V.int l.b), ("block_size", V.int l.z), ("payload", V.int l.pay), ("limit", V.int l.lim), ("last_id", V.int l.last), ("fan", V.int (l.z / 2)), ("region_blocks", V.int l.reg), ("device_blocks", V.int l.dev)])) ∧ (l.ok) ∧ (2 * l.reg ≤ ad ∧ ad < l.dev) ∧ ∀  (H' : Hp), Hs [] H [] H' → Q (V.int (placeOf l ad)) H'
def sp_place_of_1 (K : PySem.W.Frag) (A : Ads) : Sp := fun vs H Q _ => ∃ (x dx : Addr) (l : Lay) (ad : Int), vs = [V.ref x, V.int ad] ∧ (H x = some (.ins A.c_Layout dx [("segments", V.int l.g), ("segment_blocks", V.int l.b), ("block_size", V.int l.z), ("payload", V.int l.pay), ("limit", V.int l.lim), ("last_id", V.int l.last), ("fan", V.int (l.z / 2)), ("region_blocks", V.int l.reg), ("device_blocks", V.int l.dev)])) ∧ (l.ok) ∧ (¬ (2 * l.reg ≤ ad ∧ ad < l.dev)) ∧ ∀  (H' : Hp), Hs [] H [] H' → Q (V.non) H'
def sp_place_of (K : PySem.W.Frag) (A : Ads) : Sp := fun vs H Q E => sp_place_of_0 K A vs H Q E ∨ sp_place_of_1 K A vs H Q E
theorem ok_place_of (T : Txt K mg A) : FnOk P w K mg base CX0 1 A.a_place_of A.d_place_of ["layout", "address"] (sp_place_of K A) := by
  refine T.F_place_of.ok sc_place_of (fun vs H Q E h => ?_) (fun cdv A' outer s H vs Q E hRm h => ?_)
  · rcases h with h | h
    · obtain ⟨x, dx, l, ad, rfl, _⟩ := h
      rfl
    · obtain ⟨x, dx, l, ad, rfl, _⟩ := h
      rfl
  · rcases h with h | h
    · obtain ⟨x, dx, l, ad, rfl, hL, hok, hin, kq⟩ := h
      have hUn := hu_of hRm
      have s0 : Hs [] H [] H := Hs.start H
      refine ⟨_, (pss_cons (ps_set (i := 2) sc_place_of.nd rfl (.inl rfl) (pe_op op_mul pe_int (pe_fld (pv 0) rfl))) (pss_cons (ps_if (pw_or (pt_cmpR op_lt (pv 1) (pv 2) (nomark _)) (pw_or1 (pt_cmpR op_ge (pv 1) (pe_fld (pv 0) rfl) (nomark _)))).pt (pss_cons (ps_ret pe_non) pss_nil) pss_nil) (pss_cons (ps_ret (pe_op op_mod (pe_op op_sub (pv 1) (pv 2)) (pe_fld (pv 0) rfl))) pss_nil))), ?_⟩
      refine c_sig [some (V.ref x), some (V.int ad), none] rfl ?_
      have hlb : 16 ≤ l.b ∧ l.b ≤ 32 := ⟨hok.2.2.1, hok.2.2.2.1⟩
      obtain ⟨n1, en1⟩ : ∃ n : Int, n = (2 * l.reg) := ⟨_, rfl⟩
      refine s_set [some (V.ref x), some (V.int ad), some (V.int n1)] (vis (v1 (C := CMul) (g := fun i j => .int (i * j)) (i := 2) (j := l.reg) (.inl (by walk_at "cmul")) vc (vfld (vv 0 rfl) (s0.same _ _ hL) T.cl_Layout T.na_Layout_region_blocks (by rfl))) (congrArg V.int en1.symm)) rfl ?_
      refine s_if (p := (ad < n1) ∨ (ad ≥ l.dev)) (aor (vtest (v0 (g := fun i j => .bl (decide (i < j))) (vv 1 rfl) (vv 2 rfl))) (fun hc => (vtest (v0 (g := fun i j => .bl (decide (j ≤ i))) (vv 1 rfl) (vfld (vv 0 rfl) (s0.same _ _ hL) T.cl_Layout T.na_Layout_device_blocks (by rfl)))))) (fun h2 => ?_) (fun h2 => ?_)
      · -- then line 54
        refine s_ret vc ?_
        exfalso; omega
      · -- else line 54
        refine s_nxs ?_
        refine s_ret (v1 (C := fun _ j => 0 < j) (g := fun i j => .int (i % j)) (i := ad - n1) (j := l.b) (by walk_at "side") (v0 (g := fun i j => .int (i - j)) (vv 1 rfl) (vv 2 rfl)) (vfld (vv 0 rfl) (s0.same _ _ hL) T.cl_Layout T.na_Layout_segment_blocks (by rfl))) ?_
        have s3 : Hs [] H [] _ := (s0.pick [] (by decide) (by walk_at "finL"))
        exact fin (kq  _ s3 ) (by first | rfl | (subst_vars; rfl))
    · obtain ⟨x, dx, l, ad, rfl, hL, hok, hout, kq⟩ := h
      have hUn := hu_of hRm
      have s0 : Hs [] H [] H := Hs.start H
      refine ⟨_, (pss_cons (ps_set (i := 2) sc_place_of.nd rfl (.inl rfl) (pe_op op_mul pe_int (pe_fld (pv 0) rfl))) (pss_cons (ps_if (pw_or (pt_cmpR op_lt (pv 1) (pv 2) (nomark _)) (pw_or1 (pt_cmpR op_ge (pv 1) (pe_fld (pv 0) rfl) (nomark _)))).pt (pss_cons (ps_ret pe_non) pss_nil) pss_nil) (pss_cons (ps_ret (pe_op op_mod (pe_op op_sub (pv 1) (pv 2)) (pe_fld (pv 0) rfl))) pss_nil))), ?_⟩
      refine c_sig [some (V.ref x), some (V.int ad), none] rfl ?_
      have hlb : 16 ≤ l.b ∧ l.b ≤ 32 := ⟨hok.2.2.1, hok.2.2.2.1⟩
      obtain ⟨n4, en4⟩ : ∃ n : Int, n = (2 * l.reg) := ⟨_, rfl⟩
      refine s_set [some (V.ref x), some (V.int ad), some (V.int n4)] (vis (v1 (C := CMul) (g := fun i j => .int (i * j)) (i := 2) (j := l.reg) (.inl (by walk_at "cmul")) vc (vfld (vv 0 rfl) (s0.same _ _ hL) T.cl_Layout T.na_Layout_region_blocks (by rfl))) (congrArg V.int en4.symm)) rfl ?_
      refine s_if (p := (ad < n4) ∨ (ad ≥ l.dev)) (aor (vtest (v0 (g := fun i j => .bl (decide (i < j))) (vv 1 rfl) (vv 2 rfl))) (fun hc => (vtest (v0 (g := fun i j => .bl (decide (j ≤ i))) (vv 1 rfl) (vfld (vv 0 rfl) (s0.same _ _ hL) T.cl_Layout T.na_Layout_device_blocks (by rfl)))))) (fun h5 => ?_) (fun h5 => ?_)
      · -- then line 54
        refine s_ret vc ?_
        have s6 : Hs [] H [] _ := (s0.pick [] (by decide) (by walk_at "finL"))
        exact fin (kq  _ s6 ) (by first | rfl | (subst_vars; rfl))
      · -- else line 54
        refine s_nxs ?_
        refine s_ret (v1 (C := fun _ j => 0 < j) (g := fun i j => .int (i % j)) (i := ad - n4) (j := l.b) (by walk_at "side") (v0 (g := fun i j => .int (i - j)) (vv 1 rfl) (vv 2 rfl)) (vfld (vv 0 rfl) (s0.same _ _ hL) T.cl_Layout T.na_Layout_segment_blocks (by rfl))) ?_
        exfalso; omega
def sp_region_start (K : PySem.W.Frag) (A : Ads) : Sp := fun vs H Q _ => ∃ (x dx : Addr) (l : Lay) (rg : Int), vs = [V.ref x, V.int rg] ∧ (H x = some (.ins A.c_Layout dx [("segments", V.int l.g), ("segment_blocks", V.int l.b), ("block_size", V.int l.z), ("payload", V.int l.pay), ("limit", V.int l.lim), ("last_id", V.int l.last), ("fan", V.int (l.z / 2)), ("region_blocks", V.int l.reg), ("device_blocks", V.int l.dev)])) ∧ (l.ok) ∧ (0 ≤ rg) ∧ (rg ≤ 1) ∧ Q (V.int (rg * l.reg)) H
theorem ok_region_start (T : Txt K mg A) : FnOk P w K mg base CX0 1 A.a_region_start A.d_region_start ["layout", "region"] (sp_region_start K A) := by
  refine T.F_region_start.ok sc_region_start (fun vs H Q E h => ?_) (fun cdv A' outer s H vs Q E hRm h => ?_)
  · obtain ⟨x, dx, l, rg, rfl, _⟩ := h
    rfl
  · obtain ⟨x, dx, l, rg, rfl, hL, hok, hr0, hr1, kq⟩ := h
    have hUn := hu_of hRm
    have s0 : Hs [] H [] H := Hs.start H
    refine ⟨_, (pss_cons (ps_ret (pe_op op_mul (pv 1) (pe_fld (pv 0) rfl))) pss_nil), ?_⟩
    refine c_sig [some (V.ref x), some (V.int rg)] rfl ?_
    obtain ⟨hl1, hl2, hl3, hl4⟩ := hok.bounds
    refine s_ret (v1 (C := CMul) (g := fun i j => .int (i * j)) (i := rg) (j := l.reg) (by walk_at "cmul2") (vv 1 rfl) (vfld (vv 0 rfl) (s0.same _ _ hL) T.cl_Layout T.na_Layout_region_blocks (by rfl))) ?_
    exact fin kq (by rfl)
def sp__law_number (K : PySem.W.Frag) (A : Ads) : Sp := fun vs H Q _ => ∃ (a : Addr) (ns : List Int) (k : Int), vs = [V.ref a, V.int k] ∧ (SqL K H a (ns.map V.int)) ∧ (0 ≤ k) ∧ Q (V.int (numK ns k)) H
theorem ok__law_number (T : Txt K mg A) : FnOk P w K mg base CX0 1 A.a__law_number A.d__law_number ["_law_script", "_law_k"] (sp__law_number K A) := by
  refine T.F__law_number.ok sc__law_number (fun vs H Q E h => ?_) (fun cdv A' outer s H vs Q E hRm h => ?_)
  · obtain ⟨a, ns, k, rfl, _⟩ := h
    rfl
  · obtain ⟨a, ns, k, rfl, hS, h0, kq⟩ := h
    have hUn := hu_of hRm
    have s0 : Hs [] H [] H := Hs.start H
    refine ⟨_, (pss_cons (ps_set (i := 2) sc__law_number.nd rfl (.inl rfl) pe_int) (pss_cons (ps_if (pt_cmpR op_gt (pe_callB call_len_seq (by rfl) T.z_len PySem.boot_len (pa_cons (pv 0) pa_nil)) pe_int (nomark _)) (pss_cons (ps_set (i := 2) sc__law_number.nd rfl (.inl rfl) (pe_ix ix_list (pv 0) (pe_op op_mod (pe_callTy call_int1 (by rfl) T.z_int (by decide +kernel) (pa_cons (pv 1) pa_nil)) (pe_callB call_len_seq (by rfl) T.z_len PySem.boot_len (pa_cons (pv 0) pa_nil))) (fun _ _ => rfl))) pss_nil) pss_nil) (pss_cons (ps_if (pt_cmpR op_lt (pv 2) pe_int (nomark _)) (pss_cons (ps_set (i := 2) sc__law_number.nd rfl (.inl rfl) (pe_op op_sub pe_int (pe_op op_mul pe_int (pv 2)))) pss_nil) pss_nil) (pss_cons (ps_if (pw_and (pt_cmpR op_ge (pv 2) (pe_op op_pow pe_int pe_int) (nomark _)) (pw_and1 (pt_cmpR op_lt (pv 1) (pe_callB call_len_seq (by rfl) T.z_len PySem.boot_len (pa_cons (pv 0) pa_nil)) (nomark _)))).pt (pss_cons (ps_ret (pv 2)) pss_nil) pss_nil) (pss_cons (ps_set (i := 3) sc__law_number.nd rfl (.inl rfl) (pe_op op_mod (pe_callTy call_int1 (by rfl) T.z_int (by decide +kernel) (pa_cons (pe_op op_add (pe_op op_mul (pe_op op_add (pv 2) pe_int) pe_int) (pe_op op_mul (pe_op op_add (pv 1) pe_int) pe_int)) pa_nil)) pe_int)) (pss_cons (ps_set (i := 4) sc__law_number.nd rfl (.inl rfl) (pe_op op_mod (pe_callTy call_int1 (by rfl) T.z_int (by decide +kernel) (pa_cons (pe_op op_add (pe_op op_add (pe_op op_mul (pe_op op_add (pv 3) pe_int) pe_int) (pe_op op_mul (pe_op op_add (pv 2) pe_int) pe_int)) (pv 1)) pa_nil)) pe_int)) (pss_cons (ps_ret (pe_op op_mod (pe_callTy call_int1 (by rfl) T.z_int (by decide +kernel) (pa_cons (pe_op op_add (pe_op op_add (pe_op op_mul (pv 3) pe_int) (pe_op op_mul (pv 4) pe_int)) (pv 2)) pa_nil)) pe_int)) pss_nil))))))), ?_⟩
    refine c_sig [some (V.ref a), some (V.int k), none, none, none] rfl ?_
    refine s_set [some (V.ref a), some (V.int k), some (V.int 0), none, none] vc rfl ?_
    obtain ⟨n2, en2⟩ : ∃ n : Int, n = (if (ns.length : Int) > 0 then gi ns (k % (ns.length : Int)) else 0) := ⟨_, rfl⟩
    refine s_ifset [some (V.ref a), some (V.int k), some (V.int n2), none, none] (.int n2) (vtest (v0 (g := fun i j => .bl (decide (j < i))) (vis (vlenL (vv 0 rfl) (xs := ns.map V.int) (s0.sq hS)) (congrArg (fun n : Nat => V.int (n : Int)) (List.length_map ..))) vc)) (fun h1 => vis (vixL (vv 0 rfl) (v1 (C := fun _ j => 0 < j) (g := fun i j => .int (i % j)) (i := k) (j := (ns.length : Int)) (by walk_at "side") (vint (vv 1 rfl)) (vis (vlenL (vv 0 rfl) (xs := ns.map V.int) (s0.sq hS)) (congrArg (fun n : Nat => V.int (n : Int)) (List.length_map ..)))) (xs := (ns.map V.int)) (s0.sq hS) (at_gi (by walk_at "side") (by walk_at "side"))) (congrArg V.int (by rw [en2, if_pos h1]))) rfl (fun h1 => by rw [en2, if_neg h1]) ?_
    obtain ⟨n4, en4⟩ : ∃ n : Int, n = (if n2 < 0 then 1 - (2 * n2) else n2) := ⟨_, rfl⟩
    refine s_ifset [some (V.ref a), some (V.int k), some (V.int n4), none, none] (.int n4) (vtest (v0 (g := fun i j => .bl (decide (i < j))) (vv 2 rfl) vc)) (fun h3 => vis (v0 (g := fun i j => .int (i - j)) vc (v1 (C := CMul) (g := fun i j => .int (i * j)) (i := 2) (j := n2) (.inl (by walk_at "cmul")) vc (vv 2 rfl))) (congrArg V.int (by rw [en4, if_pos h3]))) rfl (fun h3 => by rw [en4, if_neg h3]) ?_
    refine s_if (p := (n4 ≥ 1000000000) ∧ (k < (ns.length : Int))) (aand (vtest (v0 (g := fun i j => .bl (decide (j ≤ i))) (vv 2 rfl) (vis (v1 (C := CPow) (g := fun i j => .int (i ^ j.toNat)) ⟨by decide, by decide, by decide⟩ vc vc) (w := .int 1000000000) (by rfl)))) (fun hc => (vtest (v0 (g := fun i j => .bl (decide (i < j))) (vv 1 rfl) (vis (vlenL (vv 0 rfl) (xs := ns.map V.int) (s0.sq hS)) (congrArg (fun n : Nat => V.int (n : Int)) (List.length_map ..))))))) (fun h5 => ?_) (fun h5 => ?_)
    · -- then line 66
      refine s_ret (vv 2 rfl) ?_
      exact fin kq (by (subst_vars; first | exact congrArg V.int (if_pos (by assumption)).symm | exact congrArg V.int (if_neg (by assumption)).symm))
    · -- else line 66
      refine s_nxs ?_
      obtain ⟨n6, en6⟩ : ∃ n : Int, n = ((((n4 + 7) * 48271) + ((k + 3) * 69621)) % 2147483647) := ⟨_, rfl⟩
      have en60 : 0 ≤ n6 := by rw [en6]; exact Int.emod_nonneg _ (by walk_at "side")
      have en61 : n6 < 2147483647 := by rw [en6]; exact Int.emod_lt_of_pos _ (by walk_at "side")
      refine s_set [some (V.ref a), some (V.int k), some (V.int n4), some (V.int n6), none] (vis (v1 (C := fun _ j => 0 < j) (g := fun i j => .int (i % j)) (i := ((n4 + 7) * 48271) + ((k + 3) * 69621)) (j := 2147483647) (by walk_at "side") (vint (v0 (g := fun i j => .int (i + j)) (v1 (C := CMul) (g := fun i j => .int (i * j)) (i := n4 + 7) (j := 48271) (.inr (by walk_at "cmul")) (v0 (g := fun i j => .int (i + j)) (vv 2 rfl) vc) vc) (v1 (C := CMul) (g := fun i j => .int (i * j)) (i := k + 3) (j := 69621) (.inr (by walk_at "cmul")) (v0 (g := fun i j => .int (i + j)) (vv 1 rfl) vc) vc))) vc) (congrArg V.int en6.symm)) rfl ?_
      obtain ⟨n7, en7⟩ : ∃ n : Int, n = (((((n6 + 11) * 16807) + ((n4 + 1) * 40692)) + k) % 2147483399) := ⟨_, rfl⟩
      have en70 : 0 ≤ n7 := by rw [en7]; exact Int.emod_nonneg _ (by walk_at "side")
      have en71 : n7 < 2147483399 := by rw [en7]; exact Int.emod_lt_of_pos _ (by walk_at "side")
      refine s_set [some (V.ref a), some (V.int k), some (V.int n4), some (V.int n6), some (V.int n7)] (vis (v1 (C := fun _ j => 0 < j) (g := fun i j => .int (i % j)) (i := (((n6 + 11) * 16807) + ((n4 + 1) * 40692)) + k) (j := 2147483399) (by walk_at "side") (vint (v0 (g := fun i j => .int (i + j)) (v0 (g := fun i j => .int (i + j)) (v1 (C := CMul) (g := fun i j => .int (i * j)) (i := n6 + 11) (j := 16807) (.inr (by walk_at "cmul")) (v0 (g := fun i j => .int (i + j)) (vv 3 rfl) vc) vc) (v1 (C := CMul) (g := fun i j => .int (i * j)) (i := n4 + 1) (j := 40692) (.inr (by walk_at "cmul")) (v0 (g := fun i j => .int (i + j)) (vv 2 rfl) vc) vc)) (vv 1 rfl))) vc) (congrArg V.int en7.symm)) rfl ?_
      refine s_ret (v1 (C := fun _ j => 0 < j) (g := fun i j => .int (i % j)) (i := ((n6 * 2147483399) + (n7 * 31)) + n4) (j := 4611686014132420609) (by walk_at "side") (vint (v0 (g := fun i j => .int (i + j)) (v0 (g := fun i j => .int (i + j)) (v1 (C := CMul) (g := fun i j => .int (i * j)) (i := n6) (j := 2147483399) (.inr (by walk_at "cmul")) (vv 3 rfl) vc) (v1 (C := CMul) (g := fun i j => .int (i * j)) (i := n7) (j := 31) (.inr (by walk_at "cmul")) (vv 4 rfl) vc)) (vv 2 rfl))) vc) ?_
      exact fin kq (by (subst_vars; first | exact congrArg V.int (if_pos (by assumption)).symm | exact congrArg V.int (if_neg (by assumption)).symm))
def sp__law_take (K : PySem.W.Frag) (A : Ads) : Sp := fun vs H Q _ => ∃ (a : Addr) (bx sz : Int), vs = [V.ref a, V.int sz] ∧ (H a = some (.lst [V.int bx])) ∧ (0 < sz) ∧ (sz < 1073741824) ∧ ∀  (H' : Hp), Hs [a] H [(a, .lst ([V.int (bx / sz)]))] H' → Q (V.int (bx % sz)) H'
theorem ok__law_take (T : Txt K mg A) : FnOk P w K mg base CX0 1 A.a__law_take A.d__law_take ["_law_box", "_law_size"] (sp__law_take K A) := by
  refine T.F__law_take.ok sc__law_take (fun vs H Q E h => ?_) (fun cdv A' outer s H vs Q E hRm h => ?_)
  · obtain ⟨a, bx, sz, rfl, _⟩ := h
    rfl
  · obtain ⟨a, bx, sz, rfl, hc_a, h0, h1, kq⟩ := h
    have hUn := hu_of hRm
    have s0 : Hs [a] H [(a, .lst ([V.int bx]))] H := Hs.start1 hc_a
    refine ⟨_, (pss_cons (ps_set (i := 2) sc__law_take.nd rfl (.inl rfl) (pe_op op_mod (pe_callTy call_int1 (by rfl) T.z_int (by decide +kernel) (pa_cons (pe_ix ix_list (pv 0) pe_int (fun _ _ => rfl)) pa_nil)) (pv 1))) (pss_cons (ps_asg (pe_op op_fdiv (pe_ix ix_list (pv 0) pe_int (fun _ _ => rfl)) (pv 1)) (pg_sub (pv 0) pe_int set_list)) (pss_cons (ps_ret (pv 2)) pss_nil))), ?_⟩
    refine c_sig [some (V.ref a), some (V.int sz), none] rfl ?_
    obtain ⟨n1, en1⟩ : ∃ n : Int, n = (bx % sz) := ⟨_, rfl⟩
    have en10 : 0 ≤ n1 := by rw [en1]; exact Int.emod_nonneg _ (by walk_at "side")
    have en11 : n1 < sz := by rw [en1]; exact Int.emod_lt_of_pos _ (by walk_at "side")
    refine s_set [some (V.ref a), some (V.int sz), some (V.int n1)] (vis (v1 (C := fun _ j => 0 < j) (g := fun i j => .int (i % j)) (i := bx) (j := sz) (by walk_at "side") (vint (vixL (vv 0 rfl) vc (xs := _) (s0.l 0 rfl) (by rfl))) (vv 1 rfl)) (congrArg V.int en1.symm)) rfl ?_
    obtain ⟨n2, en2⟩ : ∃ n : Int, n = (bx / sz) := ⟨_, rfl⟩
    refine s_setL (xs := ([V.int bx])) (s0.mem 0 rfl) (vis (v1 (C := CDiv) (g := fun i j => .int (i / j)) (i := bx) (j := sz) ⟨by walk_at "side", by walk_at "side"⟩ (vixL (vv 0 rfl) vc (xs := _) (s0.l 0 rfl) (by rfl)) (vv 1 rfl)) (congrArg V.int en2.symm)) (vv 0 rfl) vc (by walk_at "side") (by walk_at "side") ?_
    have s3 : Hs [a] H [(a, .lst ([V.int n2]))] _ := s0.wr 0 (.lst ([V.int n2])) rfl
    refine s_ret (vv 2 rfl) ?_
    have s4 : Hs [a] H [(a, .lst ([V.int (bx / sz)]))] _ := (s3.pick [0] (by decide) (by walk_at "finL"))
    exact fin (kq  _ s4 ) (by first | rfl | (subst_vars; rfl))
def sp__law_layout (K : PySem.W.Frag) (A : Ads) : Sp := fun vs H Q _ => ∃ (r : Int), vs = [V.int r] ∧ ∀ (p dx : Addr) (l : Lay) (H' : Hp), Hs [] H [(p, .ins A.c_Layout dx [("segments", V.int l.g), ("segment_blocks", V.int l.b), ("block_size", V.int l.z), ("payload", V.int l.pay), ("limit", V.int l.lim), ("last_id", V.int l.last), ("fan", V.int (l.z / 2)), ("region_blocks", V.int l.reg), ("device_blocks", V.int l.dev)])] H' → (l.ok) → Q (V.ref p) H'
theorem ok__law_layout (T : Txt K mg A) : FnOk P w K mg base CX0 4 A.a__law_layout A.d__law_layout ["_law_digit"] (sp__law_layout K A) := by
  have G_Layout___init__ : FnOk P w K mg base CX0 2 A.a_Layout___init__ A.d_Layout___init__ ["self", "segments", "segment_blocks", "block_size"] (sp_Layout___init__ K A) := ok_Layout___init__ T
  refine T.F__law_layout.ok sc__law_layout (fun vs H Q E h => ?_) (fun cdv A' outer s H vs Q E hRm h => ?_)
  · obtain ⟨r, rfl, _⟩ := h
    rfl
  · obtain ⟨r, rfl, kq⟩ := h
    have hUn := hu_of hRm
    have s0 : Hs [] H [] H := Hs.start H
    refine ⟨_, (pss_cons (ps_set (i := 1) sc__law_layout.nd rfl (.inl rfl) (pe_lst (pa_cons (pe_tup (pa_cons pe_int (pa_cons pe_int (pa_cons pe_int pa_nil)))) (pa_cons (pe_tup (pa_cons pe_int (pa_cons pe_int (pa_cons pe_int pa_nil)))) (pa_cons (pe_tup (pa_cons pe_int (pa_cons pe_int (pa_cons pe_int pa_nil)))) (pa_cons (pe_tup (pa_cons pe_int (pa_cons pe_int (pa_cons pe_int pa_nil)))) (pa_cons (pe_tup (pa_cons pe_int (pa_cons pe_int (pa_cons pe_int pa_nil)))) (pa_cons (pe_tup (pa_cons pe_int (pa_cons pe_int (pa_cons pe_int pa_nil)))) (pa_cons (pe_tup (pa_cons pe_int (pa_cons pe_int (pa_cons pe_int pa_nil)))) (pa_cons (pe_tup (pa_cons pe_int (pa_cons pe_int (pa_cons pe_int pa_nil)))) pa_nil)))))))))) (pss_cons (ps_set (i := 2) sc__law_layout.nd rfl (.inl rfl) (pe_ix ix_list (pv 1) (pe_op op_mod (pe_callTy call_int1 (by rfl) T.z_int (by decide +kernel) (pa_cons (pv 0) pa_nil)) pe_int) (fun _ _ => rfl))) (pss_cons (ps_ret (pe_make T.mk_Layout G_Layout___init__ (hRm.mono (by decide)) (by rfl) T.g_Layout T.b_Layout___init__ .nil pass0 (pa_cons (pe_ix ix_tup (pv 2) pe_int (fun _ _ => rfl)) (pa_cons (pe_ix ix_tup (pv 2) pe_int (fun _ _ => rfl)) (pa_cons (pe_ix ix_tup (pv 2) pe_int (fun _ _ => rfl)) pa_nil))))) pss_nil))), ?_⟩
    refine c_sig [some (V.int r), none, none] rfl ?_
    refine c_set ?_
    refine c_lst ?_
    refine c_cons ?_
    refine c_tup ?_
    refine c_cons ?_
    refine vc _ ?_
    refine c_cons ?_
    refine vc _ ?_
    refine c_cons ?_
    refine vc _ ?_
    refine c_nil ?_
    refine ⟨sz1 (by show 3 ≤ 1000000; decide), fun p1 np1 => ?_⟩
    have s2 : Hs [] H [(p1, .tup ([V.int 4, V.int 16, V.int 64]))] _ := s0.new np1 (.tup ([V.int 4, V.int 16, V.int 64]))
    refine c_cons ?_
    refine c_tup ?_
    refine c_cons ?_
    refine vc _ ?_
    refine c_cons ?_
    refine vc _ ?_
    refine c_cons ?_
    refine vc _ ?_
    refine c_nil ?_
    refine ⟨sz1 (by show 3 ≤ 1000000; decide), fun p3 np3 => ?_⟩
    have s4 : Hs [] H [(p3, .tup ([V.int 5, V.int 16, V.int 64])), (p1, .tup ([V.int 4, V.int 16, V.int 64]))] _ := s2.new np3 (.tup ([V.int 5, V.int 16, V.int 64]))
    refine c_cons ?_
    refine c_tup ?_
    refine c_cons ?_
    refine vc _ ?_
    refine c_cons ?_
    refine vc _ ?_
    refine c_cons ?_
    refine vc _ ?_
    refine c_nil ?_
    refine ⟨sz1 (by show 3 ≤ 1000000; decide), fun p5 np5 => ?_⟩
    have s6 : Hs [] H [(p5, .tup ([V.int 4, V.int 17, V.int 64])), (p3, .tup ([V.int 5, V.int 16, V.int 64])), (p1, .tup ([V.int 4, V.int 16, V.int 64]))] _ := s4.new np5 (.tup ([V.int 4, V.int 17, V.int 64]))
    refine c_cons ?_
    refine c_tup ?_
    refine c_cons ?_
    refine vc _ ?_
    refine c_cons ?_
    refine vc _ ?_
    refine c_cons ?_
    refine vc _ ?_
    refine c_nil ?_
    refine ⟨sz1 (by show 3 ≤ 1000000; decide), fun p7 np7 => ?_⟩
    have s8 : Hs [] H [(p7, .tup ([V.int 4, V.int 16, V.int 128])), (p5, .tup ([V.int 4, V.int 17, V.int 64])), (p3, .tup ([V.int 5, V.int 16, V.int 64])), (p1, .tup ([V.int 4, V.int 16, V.int 64]))] _ := s6.new np7 (.tup ([V.int 4, V.int 16, V.int 128]))
    refine c_cons ?_
    refine c_tup ?_
    refine c_cons ?_
    refine vc _ ?_
    refine c_cons ?_
    refine vc _ ?_
    refine c_cons ?_
    refine vc _ ?_
    refine c_nil ?_
    refine ⟨sz1 (by show 3 ≤ 1000000; decide), fun p9 np9 => ?_⟩
    have s10 : Hs [] H [(p9, .tup ([V.int 6, V.int 20, V.int 128])), (p7, .tup ([V.int 4, V.int 16, V.int 128])), (p5, .tup ([V.int 4, V.int 17, V.int 64])), (p3, .tup ([V.int 5, V.int 16, V.int 64])), (p1, .tup ([V.int 4, V.int 16, V.int 64]))] _ := s8.new np9 (.tup ([V.int 6, V.int 20, V.int 128]))
    refine c_cons ?_
    refine c_tup ?_
    refine c_cons ?_
    refine vc _ ?_
    refine c_cons ?_
    refine vc _ ?_
    refine c_cons ?_
    refine vc _ ?_
    refine c_nil ?_
    refine ⟨sz1 (by show 3 ≤ 1000000; decide), fun p11 np11 => ?_⟩
    have s12 : Hs [] H [(p11, .tup ([V.int 4, V.int 32, V.int 128])), (p9, .tup ([V.int 6, V.int 20, V.int 128])), (p7, .tup ([V.int 4, V.int 16, V.int 128])), (p5, .tup ([V.int 4, V.int 17, V.int 64])), (p3, .tup ([V.int 5, V.int 16, V.int 64])), (p1, .tup ([V.int 4, V.int 16, V.int 64]))] _ := s10.new np11 (.tup ([V.int 4, V.int 32, V.int 128]))
    refine c_cons ?_
    refine c_tup ?_
    refine c_cons ?_
    refine vc _ ?_
    refine c_cons ?_
    refine vc _ ?_
    refine c_cons ?_
    refine vc _ ?_
    refine c_nil ?_
    refine ⟨sz1 (by show 3 ≤ 1000000; decide), fun p13 np13 => ?_⟩
    have s14 : Hs [] H [(p13, .tup ([V.int 8, V.int 16, V.int 64])), (p11, .tup ([V.int 4, V.int 32, V.int 128])), (p9, .tup ([V.int 6, V.int 20, V.int 128])), (p7, .tup ([V.int 4, V.int 16, V.int 128])), (p5, .tup ([V.int 4, V.int 17, V.int 64])), (p3, .tup ([V.int 5, V.int 16, V.int 64])), (p1, .tup ([V.int 4, V.int 16, V.int 64]))] _ := s12.new np13 (.tup ([V.int 8, V.int 16, V.int 64]))
    refine c_cons ?_
    refine c_tup ?_
    refine c_cons ?_
    refine vc _ ?_
    refine c_cons ?_
    refine vc _ ?_
    refine c_cons ?_
    refine vc _ ?_
    refine c_nil ?_
    refine ⟨sz1 (by show 3 ≤ 1000000; decide), fun p15 np15 => ?_⟩
    have s16 : Hs [] H [(p15, .tup ([V.int 5, V.int 31, V.int 256])), (p13, .tup ([V.int 8, V.int 16, V.int 64])), (p11, .tup ([V.int 4, V.int 32, V.int 128])), (p9, .tup ([V.int 6, V.int 20, V.int 128])), (p7, .tup ([V.int 4, V.int 16, V.int 128])), (p5, .tup ([V.int 4, V.int 17, V.int 64])), (p3, .tup ([V.int 5, V.int 16, V.int 64])), (p1, .tup ([V.int 4, V.int 16, V.int 64]))] _ := s14.new np15 (.tup ([V.int 5, V.int 31, V.int 256]))
    refine c_nil ?_
    refine ⟨sz1 (by show 8 ≤ 1000000; decide), fun p17 np17 => ?_⟩
    have s18 : Hs [] H [(p17, .lst ([V.ref p1, V.ref p3, V.ref p5, V.ref p7, V.ref p9, V.ref p11, V.ref p13, V.ref p15])), (p15, .tup ([V.int 5, V.int 31, V.int 256])), (p13, .tup ([V.int 8, V.int 16, V.int 64])), (p11, .tup ([V.int 4, V.int 32, V.int 128])), (p9, .tup ([V.int 6, V.int 20, V.int 128])), (p7, .tup ([V.int 4, V.int 16, V.int 128])), (p5, .tup ([V.int 4, V.int 17, V.int 64])), (p3, .tup ([V.int 5, V.int 16, V.int 64])), (p1, .tup ([V.int 4, V.int 16, V.int 64]))] _ := s16.new np17 (.lst ([V.ref p1, V.ref p3, V.ref p5, V.ref p7, V.ref p9, V.ref p11, V.ref p13, V.ref p15]))
    refine k_set [some (V.int r), some (V.ref p17), none] rfl ?_
    rcases (show r % 8 = 0 ∨ r % 8 = 1 ∨ r % 8 = 2 ∨ r % 8 = 3 ∨ r % 8 = 4 ∨ r % 8 = 5 ∨ r % 8 = 6 ∨ r % 8 = 7 by omega) with h19 | h19 | h19 | h19 | h19 | h19 | h19 | h19
    · -- r % 8 = 0
      refine s_set [some (V.int r), some (V.ref p17), some (V.ref p1)] (vixL (vv 1 rfl) (vis (v1 (C := fun _ j => 0 < j) (g := fun i j => .int (i % j)) (i := r) (j := 8) (by walk_at "side") (vint (vv 0 rfl)) vc) (congrArg V.int h19)) (xs := _) (s18.l 0 rfl) (by rfl)) rfl ?_
      refine c_ret ?_
      refine c_make ?_
      refine c_cons ?_
      refine (vixT (vv 2 rfl) vc (xs := _) (s18.t 8 rfl) (by rfl)) _ ?_
      refine c_cons ?_
      refine (vixT (vv 2 rfl) vc (xs := _) (s18.t 8 rfl) (by rfl)) _ ?_
      refine c_cons ?_
      refine (vixT (vv 2 rfl) vc (xs := _) (s18.t 8 rfl) (by rfl)) _ ?_
      refine c_nil ?_
      intro p20 d21 np20 nd21 nep20
      have s22 := (s18.new nd21 (.own p20)).new (upd_none np20 nep20) (.ins A.c_Layout d21 [])
      refine ⟨p20, d21, (⟨4, 16, 64⟩ : Lay), rfl, (s22.mem 0 rfl), (by first | exact lay_least | decide | exact lay_ok (by omega) (by omega) (by omega) (by omega) (by omega) (by first | assumption | rfl) (by assumption)), fun H23 r24 => ?_⟩
      have s25 : Hs [] H [(p20, .ins A.c_Layout d21 [("segments", V.int ((⟨4, 16, 64⟩ : Lay).g)), ("segment_blocks", V.int ((⟨4, 16, 64⟩ : Lay).b)), ("block_size", V.int ((⟨4, 16, 64⟩ : Lay).z)), ("payload", V.int ((⟨4, 16, 64⟩ : Lay).pay)), ("limit", V.int ((⟨4, 16, 64⟩ : Lay).lim)), ("last_id", V.int ((⟨4, 16, 64⟩ : Lay).last)), ("fan", V.int ((⟨4, 16, 64⟩ : Lay).z / 2)), ("region_blocks", V.int ((⟨4, 16, 64⟩ : Lay).reg)), ("device_blocks", V.int ((⟨4, 16, 64⟩ : Lay).dev))]), (d21, .own p20), (p17, .lst ([V.ref p1, V.ref p3, V.ref p5, V.ref p7, V.ref p9, V.ref p11, V.ref p13, V.ref p15])), (p15, .tup ([V.int 5, V.int 31, V.int 256])), (p13, .tup ([V.int 8, V.int 16, V.int 64])), (p11, .tup ([V.int 4, V.int 32, V.int 128])), (p9, .tup ([V.int 6, V.int 20, V.int 128])), (p7, .tup ([V.int 4, V.int 16, V.int 128])), (p5, .tup ([V.int 4, V.int 17, V.int 64])), (p3, .tup ([V.int 5, V.int 16, V.int 64])), (p1, .tup ([V.int 4, V.int 16, V.int 64]))] _ := s22.call (R := [(d21, .own p20), (p17, .lst ([V.ref p1, V.ref p3, V.ref p5, V.ref p7, V.ref p9, V.ref p11, V.ref p13, V.ref p15])), (p15, .tup ([V.int 5, V.int 31, V.int 256])), (p13, .tup ([V.int 8, V.int 16, V.int 64])), (p11, .tup ([V.int 4, V.int 32, V.int 128])), (p9, .tup ([V.int 6, V.int 20, V.int 128])), (p7, .tup ([V.int 4, V.int 16, V.int 128])), (p5, .tup ([V.int 4, V.int 17, V.int 64])), (p3, .tup ([V.int 5, V.int 16, V.int 64])), (p1, .tup ([V.int 4, V.int 16, V.int 64]))]) r24 [1, 2, 3, 4, 5, 6, 7, 8, 9, 10] (by simp) (by decide) rfl (s22.sep [1, 2, 3, 4, 5, 6, 7, 8, 9, 10] [0] (by decide) rfl rfl)
      refine ⟨rfl, ?_⟩
      have s26 : Hs [] H [(p20, .ins A.c_Layout d21 [("segments", V.int (⟨4, 16, 64⟩ : Lay).g), ("segment_blocks", V.int (⟨4, 16, 64⟩ : Lay).b), ("block_size", V.int (⟨4, 16, 64⟩ : Lay).z), ("payload", V.int (⟨4, 16, 64⟩ : Lay).pay), ("limit", V.int (⟨4, 16, 64⟩ : Lay).lim), ("last_id", V.int (⟨4, 16, 64⟩ : Lay).last), ("fan", V.int ((⟨4, 16, 64⟩ : Lay).z / 2)), ("region_blocks", V.int (⟨4, 16, 64⟩ : Lay).reg), ("device_blocks", V.int (⟨4, 16, 64⟩ : Lay).dev)])] _ := (s25.pick [0] (by decide) (by walk_at "finL"))
      exact fin (kq p20 d21 (⟨4, 16, 64⟩ : Lay) _ s26 (by first | rfl | decide)) (by first | rfl | decide)
    · -- r % 8 = 1
      refine s_set [some (V.int r), some (V.ref p17), some (V.ref p3)] (vixL (vv 1 rfl) (vis (v1 (C := fun _ j => 0 < j) (g := fun i j => .int (i % j)) (i := r) (j := 8) (by walk_at "side") (vint (vv 0 rfl)) vc) (congrArg V.int h19)) (xs := _) (s18.l 0 rfl) (by rfl)) rfl ?_
      refine c_ret ?_
      refine c_make ?_
      refine c_cons ?_
      refine (vixT (vv 2 rfl) vc (xs := _) (s18.t 7 rfl) (by rfl)) _ ?_
      refine c_cons ?_
      refine (vixT (vv 2 rfl) vc (xs := _) (s18.t 7 rfl) (by rfl)) _ ?_
      refine c_cons ?_
      refine (vixT (vv 2 rfl) vc (xs := _) (s18.t 7 rfl) (by rfl)) _ ?_
      refine c_nil ?_
      intro p27 d28 np27 nd28 nep27
      have s29 := (s18.new nd28 (.own p27)).new (upd_none np27 nep27) (.ins A.c_Layout d28 [])
      refine ⟨p27, d28, (⟨5, 16, 64⟩ : Lay), rfl, (s29.mem 0 rfl), (by first | exact lay_least | decide | exact lay_ok (by omega) (by omega) (by omega) (by omega) (by omega) (by first | assumption | rfl) (by assumption)), fun H30 r31 => ?_⟩
      have s32 : Hs [] H [(p27, .ins A.c_Layout d28 [("segments", V.int ((⟨5, 16, 64⟩ : Lay).g)), ("segment_blocks", V.int ((⟨5, 16, 64⟩ : Lay).b)), ("block_size", V.int ((⟨5, 16, 64⟩ : Lay).z)), ("payload", V.int ((⟨5, 16, 64⟩ : Lay).pay)), ("limit", V.int ((⟨5, 16, 64⟩ : Lay).lim)), ("last_id", V.int ((⟨5, 16, 64⟩ : Lay).last)), ("fan", V.int ((⟨5, 16, 64⟩ : Lay).z / 2)), ("region_blocks", V.int ((⟨5, 16, 64⟩ : Lay).reg)), ("device_blocks", V.int ((⟨5, 16, 64⟩ : Lay).dev))]), (d28, .own p27), (p17, .lst ([V.ref p1, V.ref p3, V.ref p5, V.ref p7, V.ref p9, V.ref p11, V.ref p13, V.ref p15])), (p15, .tup ([V.int 5, V.int 31, V.int 256])), (p13, .tup ([V.int 8, V.int 16, V.int 64])), (p11, .tup ([V.int 4, V.int 32, V.int 128])), (p9, .tup ([V.int 6, V.int 20, V.int 128])), (p7, .tup ([V.int 4, V.int 16, V.int 128])), (p5, .tup ([V.int 4, V.int 17, V.int 64])), (p3, .tup ([V.int 5, V.int 16, V.int 64])), (p1, .tup ([V.int 4, V.int 16, V.int 64]))] _ := s29.call (R := [(d28, .own p27), (p17, .lst ([V.ref p1, V.ref p3, V.ref p5, V.ref p7, V.ref p9, V.ref p11, V.ref p13, V.ref p15])), (p15, .tup ([V.int 5, V.int 31, V.int 256])), (p13, .tup ([V.int 8, V.int 16, V.int 64])), (p11, .tup ([V.int 4, V.int 32, V.int 128])), (p9, .tup ([V.int 6, V.int 20, V.int 128])), (p7, .tup ([V.int 4, V.int 16, V.int 128])), (p5, .tup ([V.int 4, V.int 17, V.int 64])), (p3, .tup ([V.int 5, V.int 16, V.int 64])), (p1, .tup ([V.int 4, V.int 16, V.int 64]))]) r31 [1, 2, 3, 4, 5, 6, 7, 8, 9, 10] (by simp) (by decide) rfl (s29.sep [1, 2, 3, 4, 5, 6, 7, 8, 9, 10] [0] (by decide) rfl rfl)
      refine ⟨rfl, ?_⟩
      have s33 : Hs [] H [(p27, .ins A.c_Layout d28 [("segments", V.int (⟨5, 16, 64⟩ : Lay).g), ("segment_blocks", V.int (⟨5, 16, 64⟩ : Lay).b), ("block_size", V.int (⟨5, 16, 64⟩ : Lay).z), ("payload", V.int (⟨5, 16, 64⟩ : Lay).pay), ("limit", V.int (⟨5, 16, 64⟩ : Lay).lim), ("last_id", V.int (⟨5, 16, 64⟩ : Lay).last), ("fan", V.int ((⟨5, 16, 64⟩ : Lay).z / 2)), ("region_blocks", V.int (⟨5, 16, 64⟩ : Lay).reg), ("device_blocks", V.int (⟨5, 16, 64⟩ : Lay).dev)])] _ := (s32.pick [0] (by decide) (by walk_at "finL"))
      exact fin (kq p27 d28 (⟨5, 16, 64⟩ : Lay) _ s33 (by first | rfl | decide)) (by first | rfl | decide)
    · -- r % 8 = 2
      refine s_set [some (V.int r), some (V.ref p17), some (V.ref p5)] (vixL (vv 1 rfl) (vis (v1 (C := fun _ j => 0 < j) (g := fun i j => .int (i % j)) (i := r) (j := 8) (by walk_at "side") (vint (vv 0 rfl)) vc) (congrArg V.int h19)) (xs := _) (s18.l 0 rfl) (by rfl)) rfl ?_
      refine c_ret ?_
      refine c_make ?_
      refine c_cons ?_
      refine (vixT (vv 2 rfl) vc (xs := _) (s18.t 6 rfl) (by rfl)) _ ?_
      refine c_cons ?_
      refine (vixT (vv 2 rfl) vc (xs := _) (s18.t 6 rfl) (by rfl)) _ ?_
      refine c_cons ?_
      refine (vixT (vv 2 rfl) vc (xs := _) (s18.t 6 rfl) (by rfl)) _ ?_
      refine c_nil ?_
      intro p34 d35 np34 nd35 nep34
      have s36 := (s18.new nd35 (.own p34)).new (upd_none np34 nep34) (.ins A.c_Layout d35 [])
      refine ⟨p34, d35, (⟨4, 17, 64⟩ : Lay), rfl, (s36.mem 0 rfl), (by first | exact lay_least | decide | exact lay_ok (by omega) (by omega) (by omega) (by omega) (by omega) (by first | assumption | rfl) (by assumption)), fun H37 r38 => ?_⟩
      have s39 : Hs [] H [(p34, .ins A.c_Layout d35 [("segments", V.int ((⟨4, 17, 64⟩ : Lay).g)), ("segment_blocks", V.int ((⟨4, 17, 64⟩ : Lay).b)), ("block_size", V.int ((⟨4, 17, 64⟩ : Lay).z)), ("payload", V.int ((⟨4, 17, 64⟩ : Lay).pay)), ("limit", V.int ((⟨4, 17, 64⟩ : Lay).lim)), ("last_id", V.int ((⟨4, 17, 64⟩ : Lay).last)), ("fan", V.int ((⟨4, 17, 64⟩ : Lay).z / 2)), ("region_blocks", V.int ((⟨4, 17, 64⟩ : Lay).reg)), ("device_blocks", V.int ((⟨4, 17, 64⟩ : Lay).dev))]), (d35, .own p34), (p17, .lst ([V.ref p1, V.ref p3, V.ref p5, V.ref p7, V.ref p9, V.ref p11, V.ref p13, V.ref p15])), (p15, .tup ([V.int 5, V.int 31, V.int 256])), (p13, .tup ([V.int 8, V.int 16, V.int 64])), (p11, .tup ([V.int 4, V.int 32, V.int 128])), (p9, .tup ([V.int 6, V.int 20, V.int 128])), (p7, .tup ([V.int 4, V.int 16, V.int 128])), (p5, .tup ([V.int 4, V.int 17, V.int 64])), (p3, .tup ([V.int 5, V.int 16, V.int 64])), (p1, .tup ([V.int 4, V.int 16, V.int 64]))] _ := s36.call (R := [(d35, .own p34), (p17, .lst ([V.ref p1, V.ref p3, V.ref p5, V.ref p7, V.ref p9, V.ref p11, V.ref p13, V.ref p15])), (p15, .tup ([V.int 5, V.int 31, V.int 256])), (p13, .tup ([V.int 8, V.int 16, V.int 64])), (p11, .tup ([V.int 4, V.int 32, V.int 128])), (p9, .tup ([V.int 6, V.int 20, V.int 128])), (p7, .tup ([V.int 4, V.int 16, V.int 128])), (p5, .tup ([V.int 4, V.int 17, V.int 64])), (p3, .tup ([V.int 5, V.int 16, V.int 64])), (p1, .tup ([V.int 4, V.int 16, V.int 64]))]) r38 [1, 2, 3, 4, 5, 6, 7, 8, 9, 10] (by simp) (by decide) rfl (s36.sep [1, 2, 3, 4, 5, 6, 7, 8, 9, 10] [0] (by decide) rfl rfl)
      refine ⟨rfl, ?_⟩
      have s40 : Hs [] H [(p34, .ins A.c_Layout d35 [("segments", V.int (⟨4, 17, 64⟩ : Lay).g), ("segment_blocks", V.int (⟨4, 17, 64⟩ : Lay).b), ("block_size", V.int (⟨4, 17, 64⟩ : Lay).z), ("payload", V.int (⟨4, 17, 64⟩ : Lay).pay), ("limit", V.int (⟨4, 17, 64⟩ : Lay).lim), ("last_id", V.int (⟨4, 17, 64⟩ : Lay).last), ("fan", V.int ((⟨4, 17, 64⟩ : Lay).z / 2)), ("region_blocks", V.int (⟨4, 17, 64⟩ : Lay).reg), ("device_blocks", V.int (⟨4, 17, 64⟩ : Lay).dev)])] _ := (s39.pick [0] (by decide) (by walk_at "finL"))
      exact fin (kq p34 d35 (⟨4, 17, 64⟩ : Lay) _ s40 (by first | rfl | decide)) (by first | rfl | decide)
    · -- r % 8 = 3
      refine s_set [some (V.int r), some (V.ref p17), some (V.ref p7)] (vixL (vv 1 rfl) (vis (v1 (C := fun _ j => 0 < j) (g := fun i j => .int (i % j)) (i := r) (j := 8) (by walk_at "side") (vint (vv 0 rfl)) vc) (congrArg V.int h19)) (xs := _) (s18.l 0 rfl) (by rfl)) rfl ?_
      refine c_ret ?_
      refine c_make ?_
      refine c_cons ?_
      refine (vixT (vv 2 rfl) vc (xs := _) (s18.t 5 rfl) (by rfl)) _ ?_
      refine c_cons ?_
      refine (vixT (vv 2 rfl) vc (xs := _) (s18.t 5 rfl) (by rfl)) _ ?_
      refine c_cons ?_
      refine (vixT (vv 2 rfl) vc (xs := _) (s18.t 5 rfl) (by rfl)) _ ?_
      refine c_nil ?_
      intro p41 d42 np41 nd42 nep41
      have s43 := (s18.new nd42 (.own p41)).new (upd_none np41 nep41) (.ins A.c_Layout d42 [])
      refine ⟨p41, d42, (⟨4, 16, 128⟩ : Lay), rfl, (s43.mem 0 rfl), (by first | exact lay_least | decide | exact lay_ok (by omega) (by omega) (by omega) (by omega) (by omega) (by first | assumption | rfl) (by assumption)), fun H44 r45 => ?_⟩
      have s46 : Hs [] H [(p41, .ins A.c_Layout d42 [("segments", V.int ((⟨4, 16, 128⟩ : Lay).g)), ("segment_blocks", V.int ((⟨4, 16, 128⟩ : Lay).b)), ("block_size", V.int ((⟨4, 16, 128⟩ : Lay).z)), ("payload", V.int ((⟨4, 16, 128⟩ : Lay).pay)), ("limit", V.int ((⟨4, 16, 128⟩ : Lay).lim)), ("last_id", V.int ((⟨4, 16, 128⟩ : Lay).last)), ("fan", V.int ((⟨4, 16, 128⟩ : Lay).z / 2)), ("region_blocks", V.int ((⟨4, 16, 128⟩ : Lay).reg)), ("device_blocks", V.int ((⟨4, 16, 128⟩ : Lay).dev))]), (d42, .own p41), (p17, .lst ([V.ref p1, V.ref p3, V.ref p5, V.ref p7, V.ref p9, V.ref p11, V.ref p13, V.ref p15])), (p15, .tup ([V.int 5, V.int 31, V.int 256])), (p13, .tup ([V.int 8, V.int 16, V.int 64])), (p11, .tup ([V.int 4, V.int 32, V.int 128])), (p9, .tup ([V.int 6, V.int 20, V.int 128])), (p7, .tup ([V.int 4, V.int 16, V.int 128])), (p5, .tup ([V.int 4, V.int 17, V.int 64])), (p3, .tup ([V.int 5, V.int 16, V.int 64])), (p1, .tup ([V.int 4, V.int 16, V.int 64]))] _ := s43.call (R := [(d42, .own p41), (p17, .lst ([V.ref p1, V.ref p3, V.ref p5, V.ref p7, V.ref p9, V.ref p11, V.ref p13, V.ref p15])), (p15, .tup ([V.int 5, V.int 31, V.int 256])), (p13, .tup ([V.int 8, V.int 16, V.int 64])), (p11, .tup ([V.int 4, V.int 32, V.int 128])), (p9, .tup ([V.int 6, V.int 20, V.int 128])), (p7, .tup ([V.int 4, V.int 16, V.int 128])), (p5, .tup ([V.int 4, V.int 17, V.int 64])), (p3, .tup ([V.int 5, V.int 16, V.int 64])), (p1, .tup ([V.int 4, V.int 16, V.int 64]))]) r45 [1, 2, 3, 4, 5, 6, 7, 8, 9, 10] (by simp) (by decide) rfl (s43.sep [1, 2, 3, 4, 5, 6, 7, 8, 9, 10] [0] (by decide) rfl rfl)
      refine ⟨rfl, ?_⟩
      have s47 : Hs [] H [(p41, .ins A.c_Layout d42 [("segments", V.int (⟨4, 16, 128⟩ : Lay).g), ("segment_blocks", V.int (⟨4, 16, 128⟩ : Lay).b), ("block_size", V.int (⟨4, 16, 128⟩ : Lay).z), ("payload", V.int (⟨4, 16, 128⟩ : Lay).pay), ("limit", V.int (⟨4, 16, 128⟩ : Lay).lim), ("last_id", V.int (⟨4, 16, 128⟩ : Lay).last), ("fan", V.int ((⟨4, 16, 128⟩ : Lay).z / 2)), ("region_blocks", V.int (⟨4, 16, 128⟩ : Lay).reg), ("device_blocks", V.int (⟨4, 16, 128⟩ : Lay).dev)])] _ := (s46.pick [0] (by decide) (by walk_at "finL"))
      exact fin (kq p41 d42 (⟨4, 16, 128⟩ : Lay) _ s47 (by first | rfl | decide)) (by first | rfl | decide)
    · -- r % 8 = 4
      refine s_set [some (V.int r), some (V.ref p17), some (V.ref p9)] (vixL (vv 1 rfl) (vis (v1 (C := fun _ j => 0 < j) (g := fun i j => .int (i % j)) (i := r) (j := 8) (by walk_at "side") (vint (vv 0 rfl)) vc) (congrArg V.int h19)) (xs := _) (s18.l 0 rfl) (by rfl)) rfl ?_
      refine c_ret ?_
      refine c_make ?_
      refine c_cons ?_
      refine (vixT (vv 2 rfl) vc (xs := _) (s18.t 4 rfl) (by rfl)) _ ?_
      refine c_cons ?_
      refine (vixT (vv 2 rfl) vc (xs := _) (s18.t 4 rfl) (by rfl)) _ ?_
      refine c_cons ?_
      refine (vixT (vv 2 rfl) vc (xs := _) (s18.t 4 rfl) (by rfl)) _ ?_
      refine c_nil ?_
      intro p48 d49 np48 nd49 nep48
      have s50 := (s18.new nd49 (.own p48)).new (upd_none np48 nep48) (.ins A.c_Layout d49 [])
      refine ⟨p48, d49, (⟨6, 20, 128⟩ : Lay), rfl, (s50.mem 0 rfl), (by first | exact lay_least | decide | exact lay_ok (by omega) (by omega) (by omega) (by omega) (by omega) (by first | assumption | rfl) (by assumption)), fun H51 r52 => ?_⟩
      have s53 : Hs [] H [(p48, .ins A.c_Layout d49 [("segments", V.int ((⟨6, 20, 128⟩ : Lay).g)), ("segment_blocks", V.int ((⟨6, 20, 128⟩ : Lay).b)), ("block_size", V.int ((⟨6, 20, 128⟩ : Lay).z)), ("payload", V.int ((⟨6, 20, 128⟩ : Lay).pay)), ("limit", V.int ((⟨6, 20, 128⟩ : Lay).lim)), ("last_id", V.int ((⟨6, 20, 128⟩ : Lay).last)), ("fan", V.int ((⟨6, 20, 128⟩ : Lay).z / 2)), ("region_blocks", V.int ((⟨6, 20, 128⟩ : Lay).reg)), ("device_blocks", V.int ((⟨6, 20, 128⟩ : Lay).dev))]), (d49, .own p48), (p17, .lst ([V.ref p1, V.ref p3, V.ref p5, V.ref p7, V.ref p9, V.ref p11, V.ref p13, V.ref p15])), (p15, .tup ([V.int 5, V.int 31, V.int 256])), (p13, .tup ([V.int 8, V.int 16, V.int 64])), (p11, .tup ([V.int 4, V.int 32, V.int 128])), (p9, .tup ([V.int 6, V.int 20, V.int 128])), (p7, .tup ([V.int 4, V.int 16, V.int 128])), (p5, .tup ([V.int 4, V.int 17, V.int 64])), (p3, .tup ([V.int 5, V.int 16, V.int 64])), (p1, .tup ([V.int 4, V.int 16, V.int 64]))] _ := s50.call (R := [(d49, .own p48), (p17, .lst ([V.ref p1, V.ref p3, V.ref p5, V.ref p7, V.ref p9, V.ref p11, V.ref p13, V.ref p15])), (p15, .tup ([V.int 5, V.int 31, V.int 256])), (p13, .tup ([V.int 8, V.int 16, V.int 64])), (p11, .tup ([V.int 4, V.int 32, V.int 128])), (p9, .tup ([V.int 6, V.int 20, V.int 128])), (p7, .tup ([V.int 4, V.int 16, V.int 128])), (p5, .tup ([V.int 4, V.int 17, V.int 64])), (p3, .tup ([V.int 5, V.int 16, V.int 64])), (p1, .tup ([V.int 4, V.int 16, V.int 64]))]) r52 [1, 2, 3, 4, 5, 6, 7, 8, 9, 10] (by simp) (by decide) rfl (s50.sep [1, 2, 3, 4, 5, 6, 7, 8, 9, 10] [0] (by decide) rfl rfl)
      refine ⟨rfl, ?_⟩
      have s54 : Hs [] H [(p48, .ins A.c_Layout d49 [("segments", V.int (⟨6, 20, 128⟩ : Lay).g), ("segment_blocks", V.int (⟨6, 20, 128⟩ : Lay).b), ("block_size", V.int (⟨6, 20, 128⟩ : Lay).z), ("payload", V.int (⟨6, 20, 128⟩ : Lay).pay), ("limit", V.int (⟨6, 20, 128⟩ : Lay).lim), ("last_id", V.int (⟨6, 20, 128⟩ : Lay).last), ("fan", V.int ((⟨6, 20, 128⟩ : Lay).z / 2)), ("region_blocks", V.int (⟨6, 20, 128⟩ : Lay).reg), ("device_blocks", V.int (⟨6, 20, 128⟩ : Lay).dev)])] _ := (s53.pick [0] (by decide) (by walk_at "finL"))
      exact fin (kq p48 d49 (⟨6, 20, 128⟩ : Lay) _ s54 (by first | rfl | decide)) (by first | rfl | decide)
    · -- r % 8 = 5
      refine s_set [some (V.int r), some (V.ref p17), some (V.ref p11)] (vixL (vv 1 rfl) (vis (v1 (C := fun _ j => 0 < j) (g := fun i j => .int (i % j)) (i := r) (j := 8) (by walk_at "side") (vint (vv 0 rfl)) vc) (congrArg V.int h19)) (xs := _) (s18.l 0 rfl) (by rfl)) rfl ?_
      refine c_ret ?_
      refine c_make ?_
      refine c_cons ?_
      refine (vixT (vv 2 rfl) vc (xs := _) (s18.t 3 rfl) (by rfl)) _ ?_
      refine c_cons ?_
      refine (vixT (vv 2 rfl) vc (xs := _) (s18.t 3 rfl) (by rfl)) _ ?_
      refine c_cons ?_
      refine (vixT (vv 2 rfl) vc (xs := _) (s18.t 3 rfl) (by rfl)) _ ?_
      refine c_nil ?_
      intro p55 d56 np55 nd56 nep55
      have s57 := (s18.new nd56 (.own p55)).new (upd_none np55 nep55) (.ins A.c_Layout d56 [])
      refine ⟨p55, d56, (⟨4, 32, 128⟩ : Lay), rfl, (s57.mem 0 rfl), (by first | exact lay_least | decide | exact lay_ok (by omega) (by omega) (by omega) (by omega) (by omega) (by first | assumption | rfl) (by assumption)), fun H58 r59 => ?_⟩
      have s60 : Hs [] H [(p55, .ins A.c_Layout d56 [("segments", V.int ((⟨4, 32, 128⟩ : Lay).g)), ("segment_blocks", V.int ((⟨4, 32, 128⟩ : Lay).b)), ("block_size", V.int ((⟨4, 32, 128⟩ : Lay).z)), ("payload", V.int ((⟨4, 32, 128⟩ : Lay).pay)), ("limit", V.int ((⟨4, 32, 128⟩ : Lay).lim)), ("last_id", V.int ((⟨4, 32, 128⟩ : Lay).last)), ("fan", V.int ((⟨4, 32, 128⟩ : Lay).z / 2)), ("region_blocks", V.int ((⟨4, 32, 128⟩ : Lay).reg)), ("device_blocks", V.int ((⟨4, 32, 128⟩ : Lay).dev))]), (d56, .own p55), (p17, .lst ([V.ref p1, V.ref p3, V.ref p5, V.ref p7, V.ref p9, V.ref p11, V.ref p13, V.ref p15])), (p15, .tup ([V.int 5, V.int 31, V.int 256])), (p13, .tup ([V.int 8, V.int 16, V.int 64])), (p11, .tup ([V.int 4, V.int 32, V.int 128])), (p9, .tup ([V.int 6, V.int 20, V.int 128])), (p7, .tup ([V.int 4, V.int 16, V.int 128])), (p5, .tup ([V.int 4, V.int 17, V.int 64])), (p3, .tup ([V.int 5, V.int 16, V.int 64])), (p1, .tup ([V.int 4, V.int 16, V.int 64]))] _ := s57.call (R := [(d56, .own p55), (p17, .lst ([V.ref p1, V.ref p3, V.ref p5, V.ref p7, V.ref p9, V.ref p11, V.ref p13, V.ref p15])), (p15, .tup ([V.int 5, V.int 31, V.int 256])), (p13, .tup ([V.int 8, V.int 16, V.int 64])), (p11, .tup ([V.int 4, V.int 32, V.int 128])), (p9, .tup ([V.int 6, V.int 20, V.int 128])), (p7, .tup ([V.int 4, V.int 16, V.int 128])), (p5, .tup ([V.int 4, V.int 17, V.int 64])), (p3, .tup ([V.int 5, V.int 16, V.int 64])), (p1, .tup ([V.int 4, V.int 16, V.int 64]))]) r59 [1, 2, 3, 4, 5, 6, 7, 8, 9, 10] (by simp) (by decide) rfl (s57.sep [1, 2, 3, 4, 5, 6, 7, 8, 9, 10] [0] (by decide) rfl rfl)
      refine ⟨rfl, ?_⟩
      have s61 : Hs [] H [(p55, .ins A.c_Layout d56 [("segments", V.int (⟨4, 32, 128⟩ : Lay).g), ("segment_blocks", V.int (⟨4, 32, 128⟩ : Lay).b), ("block_size", V.int (⟨4, 32, 128⟩ : Lay).z), ("payload", V.int (⟨4, 32, 128⟩ : Lay).pay), ("limit", V.int (⟨4, 32, 128⟩ : Lay).lim), ("last_id", V.int (⟨4, 32, 128⟩ : Lay).last), ("fan", V.int ((⟨4, 32, 128⟩ : Lay).z / 2)), ("region_blocks", V.int (⟨4, 32, 128⟩ : Lay).reg), ("device_blocks", V.int (⟨4, 32, 128⟩ : Lay).dev)])] _ := (s60.pick [0] (by decide) (by walk_at "finL"))
      exact fin (kq p55 d56 (⟨4, 32, 128⟩ : Lay) _ s61 (by first | rfl | decide)) (by first | rfl | decide)
    · -- r % 8 = 6
      refine s_set [some (V.int r), some (V.ref p17), some (V.ref p13)] (vixL (vv 1 rfl) (vis (v1 (C := fun _ j => 0 < j) (g := fun i j => .int (i % j)) (i := r) (j := 8) (by walk_at "side") (vint (vv 0 rfl)) vc) (congrArg V.int h19)) (xs := _) (s18.l 0 rfl) (by rfl)) rfl ?_
      refine c_ret ?_
      refine c_make ?_
      refine c_cons ?_
      refine (vixT (vv 2 rfl) vc (xs := _) (s18.t 2 rfl) (by rfl)) _ ?_
      refine c_cons ?_
      refine (vixT (vv 2 rfl) vc (xs := _) (s18.t 2 rfl) (by rfl)) _ ?_
      refine c_cons ?_
      refine (vixT (vv 2 rfl) vc (xs := _) (s18.t 2 rfl) (by rfl)) _ ?_
      refine c_nil ?_
      intro p62 d63 np62 nd63 nep62
      have s64 := (s18.new nd63 (.own p62)).new (upd_none np62 nep62) (.ins A.c_Layout d63 [])
      refine ⟨p62, d63, (⟨8, 16, 64⟩ : Lay), rfl, (s64.mem 0 rfl), (by first | exact lay_least | decide | exact lay_ok (by omega) (by omega) (by omega) (by omega) (by omega) (by first | assumption | rfl) (by assumption)), fun H65 r66 => ?_⟩
      have s67 : Hs [] H [(p62, .ins A.c_Layout d63 [("segments", V.int ((⟨8, 16, 64⟩ : Lay).g)), ("segment_blocks", V.int ((⟨8, 16, 64⟩ : Lay).b)), ("block_size", V.int ((⟨8, 16, 64⟩ : Lay).z)), ("payload", V.int ((⟨8, 16, 64⟩ : Lay).pay)), ("limit", V.int ((⟨8, 16, 64⟩ : Lay).lim)), ("last_id", V.int ((⟨8, 16, 64⟩ : Lay).last)), ("fan", V.int ((⟨8, 16, 64⟩ : Lay).z / 2)), ("region_blocks", V.int ((⟨8, 16, 64⟩ : Lay).reg)), ("device_blocks", V.int ((⟨8, 16, 64⟩ : Lay).dev))]), (d63, .own p62), (p17, .lst ([V.ref p1, V.ref p3, V.ref p5, V.ref p7, V.ref p9, V.ref p11, V.ref p13, V.ref p15])), (p15, .tup ([V.int 5, V.int 31, V.int 256])), (p13, .tup ([V.int 8, V.int 16, V.int 64])), (p11, .tup ([V.int 4, V.int 32, V.int 128])), (p9, .tup ([V.int 6, V.int 20, V.int 128])), (p7, .tup ([V.int 4, V.int 16, V.int 128])), (p5, .tup ([V.int 4, V.int 17, V.int 64])), (p3, .tup ([V.int 5, V.int 16, V.int 64])), (p1, .tup ([V.int 4, V.int 16, V.int 64]))] _ := s64.call (R := [(d63, .own p62), (p17, .lst ([V.ref p1, V.ref p3, V.ref p5, V.ref p7, V.ref p9, V.ref p11, V.ref p13, V.ref p15])), (p15, .tup ([V.int 5, V.int 31, V.int 256])), (p13, .tup ([V.int 8, V.int 16, V.int 64])), (p11, .tup ([V.int 4, V.int 32, V.int 128])), (p9, .tup ([V.int 6, V.int 20, V.int 128])), (p7, .tup ([V.int 4, V.int 16, V.int 128])), (p5, .tup ([V.int 4, V.int 17, V.int 64])), (p3, .tup ([V.int 5, V.int 16, V.int 64])), (p1, .tup ([V.int 4, V.int 16, V.int 64]))]) r66 [1, 2, 3, 4, 5, 6, 7, 8, 9, 10] (by simp) (by decide) rfl (s64.sep [1, 2, 3, 4, 5, 6, 7, 8, 9, 10] [0] (by decide) rfl rfl)
      refine ⟨rfl, ?_⟩
      have s68 : Hs [] H [(p62, .ins A.c_Layout d63 [("segments", V.int (⟨8, 16, 64⟩ : Lay).g), ("segment_blocks", V.int (⟨8, 16, 64⟩ : Lay).b), ("block_size", V.int (⟨8, 16, 64⟩ : Lay).z), ("payload", V.int (⟨8, 16, 64⟩ : Lay).pay), ("limit", V.int (⟨8, 16, 64⟩ : Lay).lim), ("last_id", V.int (⟨8, 16, 64⟩ : Lay).last), ("fan", V.int ((⟨8, 16, 64⟩ : Lay).z / 2)), ("region_blocks", V.int (⟨8, 16, 64⟩ : Lay).reg), ("device_blocks", V.int (⟨8, 16, 64⟩ : Lay).dev)])] _ := (s67.pick [0] (by decide) (by walk_at "finL"))
      exact fin (kq p62 d63 (⟨8, 16, 64⟩ : Lay) _ s68 (by first | rfl | decide)) (by first | rfl | decide)
    · -- r % 8 = 7
      refine s_set [some (V.int r), some (V.ref p17), some (V.ref p15)] (vixL (vv 1 rfl) (vis (v1 (C := fun _ j => 0 < j) (g := fun i j => .int (i % j)) (i := r) (j := 8) (by walk_at "side") (vint (vv 0 rfl)) vc) (congrArg V.int h19)) (xs := _) (s18.l 0 rfl) (by rfl)) rfl ?_
      refine c_ret ?_
      refine c_make ?_
      refine c_cons ?_
      refine (vixT (vv 2 rfl) vc (xs := _) (s18.t 1 rfl) (by rfl)) _ ?_
      refine c_cons ?_
      refine (vixT (vv 2 rfl) vc (xs := _) (s18.t 1 rfl) (by rfl)) _ ?_
      refine c_cons ?_
      refine (vixT (vv 2 rfl) vc (xs := _) (s18.t 1 rfl) (by rfl)) _ ?_
      refine c_nil ?_
      intro p69 d70 np69 nd70 nep69
      have s71 := (s18.new nd70 (.own p69)).new (upd_none np69 nep69) (.ins A.c_Layout d70 [])
      refine ⟨p69, d70, (⟨5, 31, 256⟩ : Lay), rfl, (s71.mem 0 rfl), (by first | exact lay_least | decide | exact lay_ok (by omega) (by omega) (by omega) (by omega) (by omega) (by first | assumption | rfl) (by assumption)), fun H72 r73 => ?_⟩
      have s74 : Hs [] H [(p69, .ins A.c_Layout d70 [("segments", V.int ((⟨5, 31, 256⟩ : Lay).g)), ("segment_blocks", V.int ((⟨5, 31, 256⟩ : Lay).b)), ("block_size", V.int ((⟨5, 31, 256⟩ : Lay).z)), ("payload", V.int ((⟨5, 31, 256⟩ : Lay).pay)), ("limit", V.int ((⟨5, 31, 256⟩ : Lay).lim)), ("last_id", V.int ((⟨5, 31, 256⟩ : Lay).last)), ("fan", V.int ((⟨5, 31, 256⟩ : Lay).z / 2)), ("region_blocks", V.int ((⟨5, 31, 256⟩ : Lay).reg)), ("device_blocks", V.int ((⟨5, 31, 256⟩ : Lay).dev))]), (d70, .own p69), (p17, .lst ([V.ref p1, V.ref p3, V.ref p5, V.ref p7, V.ref p9, V.ref p11, V.ref p13, V.ref p15])), (p15, .tup ([V.int 5, V.int 31, V.int 256])), (p13, .tup ([V.int 8, V.int 16, V.int 64])), (p11, .tup ([V.int 4, V.int 32, V.int 128])), (p9, .tup ([V.int 6, V.int 20, V.int 128])), (p7, .tup ([V.int 4, V.int 16, V.int 128])), (p5, .tup ([V.int 4, V.int 17, V.int 64])), (p3, .tup ([V.int 5, V.int 16, V.int 64])), (p1, .tup ([V.int 4, V.int 16, V.int 64]))] _ := s71.call (R := [(d70, .own p69), (p17, .lst ([V.ref p1, V.ref p3, V.ref p5, V.ref p7, V.ref p9, V.ref p11, V.ref p13, V.ref p15])), (p15, .tup ([V.int 5, V.int 31, V.int 256])), (p13, .tup ([V.int 8, V.int 16, V.int 64])), (p11, .tup ([V.int 4, V.int 32, V.int 128])), (p9, .tup ([V.int 6, V.int 20, V.int 128])), (p7, .tup ([V.int 4, V.int 16, V.int 128])), (p5, .tup ([V.int 4, V.int 17, V.int 64])), (p3, .tup ([V.int 5, V.int 16, V.int 64])), (p1, .tup ([V.int 4, V.int 16, V.int 64]))]) r73 [1, 2, 3, 4, 5, 6, 7, 8, 9, 10] (by simp) (by decide) rfl (s71.sep [1, 2, 3, 4, 5, 6, 7, 8, 9, 10] [0] (by decide) rfl rfl)
      refine ⟨rfl, ?_⟩
      have s75 : Hs [] H [(p69, .ins A.c_Layout d70 [("segments", V.int (⟨5, 31, 256⟩ : Lay).g), ("segment_blocks", V.int (⟨5, 31, 256⟩ : Lay).b), ("block_size", V.int (⟨5, 31, 256⟩ : Lay).z), ("payload", V.int (⟨5, 31, 256⟩ : Lay).pay), ("limit", V.int (⟨5, 31, 256⟩ : Lay).lim), ("last_id", V.int (⟨5, 31, 256⟩ : Lay).last), ("fan", V.int ((⟨5, 31, 256⟩ : Lay).z / 2)), ("region_blocks", V.int (⟨5, 31, 256⟩ : Lay).reg), ("device_blocks", V.int (⟨5, 31, 256⟩ : Lay).dev)])] _ := (s74.pick [0] (by decide) (by walk_at "finL"))
      exact fin (kq p69 d70 (⟨5, 31, 256⟩ : Lay) _ s75 (by first | rfl | decide)) (by first | rfl | decide)
def sp__law_is_number (K : PySem.W.Frag) (A : Ads) : Sp := fun vs H Q _ => ∃ (n : Int), vs = [V.int n] ∧ Q (V.bl true) H
theorem ok__law_is_number (T : Txt K mg A) : FnOk P w K mg base CX0 1 A.a__law_is_number A.d__law_is_number ["_law_actual"] (sp__law_is_number K A) := by
  refine T.F__law_is_number.ok sc__law_is_number (fun vs H Q E h => ?_) (fun cdv A' outer s H vs Q E hRm h => ?_)
  · obtain ⟨n, rfl, _⟩ := h
    rfl
  · obtain ⟨n, rfl, kq⟩ := h
    have hUn := hu_of hRm
    have s0 : Hs [] H [] H := Hs.start H
    refine ⟨_, (pss_cons (ps_ret (pe_and (pe_callB call_isi (by rfl) T.z_isinstance (by decide +kernel) (pa_cons (pv 0) (pa_cons (pe_bltn (v := .ty "int") (u := .type "int") (by rfl) T.z_int (by decide +kernel) rfl) pa_nil))) (pe_one (pe_not (pe_callB call_isi (by rfl) T.z_isinstance (by decide +kernel) (pa_cons (pv 0) (pa_cons (pe_bltn (v := .ty "bool") (u := .type "bool") (by rfl) T.z_bool (by decide +kernel) rfl) pa_nil))))))) pss_nil), ?_⟩
    refine c_sig [some (V.int n)] rfl ?_
    refine s_ret (vand (vbool (visi (b := true) (tu := .type "int") (vv 0 rfl) vc (ClsV.ty "int") (.base (.int _)) (kit_ty (by decide +kernel)))) (fun hc => (vnot (vbool (visi (b := false) (tu := .type "int") (vv 0 rfl) vc (ClsV.ty "bool") (.base (.int _)) (kit_ty (by decide +kernel))))))) ?_
    exact fin kq (by rfl)
def sp__law_fits (K : PySem.W.Frag) (A : Ads) : Sp := fun vs H Q _ => ∃ (g b z : Int), vs = [V.int g, V.int b, V.int z] ∧ ∀  (H' : Hp), Hs [] H [] H' → Q (V.bl (decide ((⟨g, b, z⟩ : Lay).ok))) H'
theorem ok__law_fits (T : Txt K mg A) : FnOk P w K mg base CX0 1 A.a__law_fits A.d__law_fits ["_law_segments", "_law_blocks", "_law_size"] (sp__law_fits K A) := by
  refine T.F__law_fits.ok sc__law_fits (fun vs H Q E h => ?_) (fun cdv A' outer s H vs Q E hRm h => ?_)
  · obtain ⟨g, b, z, rfl, _⟩ := h
    rfl
  · obtain ⟨g, b, z, rfl, kq⟩ := h
    have hUn := hu_of hRm
    have s0 : Hs [] H [] H := Hs.start H
    refine ⟨_, (pss_cons (ps_if (pw_or (pt_cmpR op_lt (pv 0) pe_int (nomark _)) (pw_or (pt_cmpR op_gt (pv 0) pe_int (nomark _)) (pw_or (pt_cmpR op_lt (pv 1) pe_int (nomark _)) (pw_or1 (pt_cmpR op_gt (pv 1) pe_int (nomark _)))))).pt (pss_cons (ps_ret pe_bl) pss_nil) pss_nil) (pss_cons (ps_if (pw_and (pt_cmpR op_ne (pv 2) pe_int (nomark _)) (pw_and (pt_cmpR op_ne (pv 2) pe_int (nomark _)) (pw_and1 (pt_cmpR op_ne (pv 2) pe_int (nomark _))))).pt (pss_cons (ps_ret pe_bl) pss_nil) pss_nil) (pss_cons (ps_set (i := 3) sc__law_fits.nd rfl (.inl rfl) pe_int) (pss_cons (ps_while PassesOwn.never (pt_cmpR op_lt (pe_op op_mul (pv 3) pe_int) (pe_op op_mul (pe_op op_sub (pv 0) pe_int) (pe_op op_sub (pv 1) pe_int)) (nomark _)) (pss_cons (ps_set (i := 3) sc__law_fits.nd rfl (.inl rfl) (pe_op op_add (pv 3) pe_int)) pss_nil)) (pss_cons (ps_ret (pe_cmpR op_le (pe_op op_add (pe_op op_add pe_int (pe_op op_mul pe_int (pe_op op_sub (pv 1) pe_int))) (pv 3)) (pv 2) (nomark _))) pss_nil))))), ?_⟩
    refine c_sig [some (V.int g), some (V.int b), some (V.int z), none] rfl ?_
    refine s_if (p := (g < 4) ∨ ((g > 16) ∨ ((b < 16) ∨ (b > 32)))) (aor (vtest (v0 (g := fun i j => .bl (decide (i < j))) (vv 0 rfl) vc)) (fun hc => (aor (vtest (v0 (g := fun i j => .bl (decide (j < i))) (vv 0 rfl) vc)) (fun hc => (aor (vtest (v0 (g := fun i j => .bl (decide (i < j))) (vv 1 rfl) vc)) (fun hc => (vtest (v0 (g := fun i j => .bl (decide (j < i))) (vv 1 rfl) vc)))))))) (fun h1 => ?_) (fun h1 => ?_)
    · -- then line 82
      refine s_ret vc ?_
      have s2 : Hs [] H [] _ := (s0.pick [] (by decide) (by walk_at "finL"))
      exact fin (kq  _ s2 ) (by first | exact congrArg V.bl (decide_eq_decide.mpr (fits_iff (by omega) (by omega) (by omega) (by omega) (by omega) (by assumption) (by assumption))) | exact congrArg V.bl (decide_eq_false (fun hz => by obtain ⟨h1, h2, h3, h4, h5, h6⟩ := hz; simp only at h1 h2 h3 h4 h5; omega)).symm)
    · -- else line 82
      refine s_nxs ?_
      refine s_if (p := (z ≠ 64) ∧ ((z ≠ 128) ∧ (z ≠ 256))) (aand (vtest (vne (vv 2 rfl) vc)) (fun hc => (aand (vtest (vne (vv 2 rfl) vc)) (fun hc => (vtest (vne (vv 2 rfl) vc)))))) (fun h3 => ?_) (fun h3 => ?_)
      · -- then line 84
        refine s_ret vc ?_
        have s4 : Hs [] H [] _ := (s0.pick [] (by decide) (by walk_at "finL"))
        exact fin (kq  _ s4 ) (by first | exact congrArg V.bl (decide_eq_decide.mpr (fits_iff (by omega) (by omega) (by omega) (by omega) (by omega) (by assumption) (by assumption))) | exact congrArg V.bl (decide_eq_false (fun hz => by obtain ⟨h1, h2, h3, h4, h5, h6⟩ := hz; simp only at h1 h2 h3 h4 h5; omega)).symm)
      · -- else line 84
        refine s_nxs ?_
        refine s_set [some (V.int g), some (V.int b), some (V.int z), some (V.int 0)] vc rfl ?_
        refine s_while (fun mW σ' H' => ∃ (o : Int), σ' = [some (V.int g), some (V.int b), some (V.int z), some (V.int o)] ∧ Hs [] H [] H' ∧ (0 ≤ o) ∧ (o * 8 < (g - 1) * (b - 1) + 8) ∧ mW = ((g - 1) * (b - 1) - o * 8).toNat) _ ⟨0, rfl, s0.pick [] (by decide) (by walk_at "finL"), ?_, ?_, rfl⟩ ?_
        · omega
        · have := mul_bd (a := g - 1) (b := b - 1) (c := 15) (d := 31) (by omega) (by omega) (by omega) (by omega); omega
        intro mW σ' H' hP; obtain ⟨o, rfl, sI, hI0, hI1, hmW⟩ := hP
        skip
        refine (vtest (v0 (g := fun i j => .bl (decide (i < j))) (v1 (C := CMul) (g := fun i j => .int (i * j)) (i := o) (j := 8) (.inr (by walk_at "cmul")) (vv 3 rfl) vc) (v1 (C := CMul) (g := fun i j => .int (i * j)) (i := g - 1) (j := b - 1) (by walk_at "cmul2") (v0 (g := fun i j => .int (i - j)) (vv 0 rfl) vc) (v0 (g := fun i j => .int (i - j)) (vv 1 rfl) vc)))) _ ?_
        refine c_ite (p := (o * 8) < ((g - 1) * (b - 1))) (fun h5 => ?_) (fun h5 => ?_)
        · -- a turn
          refine ⟨_, fun _ _ hN => hN, ?_⟩
          refine c_sig [some (V.int g), some (V.int b), some (V.int z), some (V.int o)] rfl ?_
          obtain ⟨n6, en6⟩ : ∃ n : Int, n = (o + 1) := ⟨_, rfl⟩
          refine s_set [some (V.int g), some (V.int b), some (V.int z), some (V.int n6)] (vis (v0 (g := fun i j => .int (i + j)) (vv 3 rfl) vc) (congrArg V.int en6.symm)) rfl ?_
          refine s_nx ?_
          refine ⟨_, ?_, n6, rfl, sI.pick [] (by decide) (by walk_at "finL"), ?_, ?_, rfl⟩
          · omega
          · omega
          · omega
        · -- behind the loop
          refine s_ret (v0 (g := fun i j => .bl (decide (i ≤ j))) (v0 (g := fun i j => .int (i + j)) (v0 (g := fun i j => .int (i + j)) vc (v1 (C := CMul) (g := fun i j => .int (i * j)) (i := 2) (j := b - 1) (.inl (by walk_at "cmul")) vc (v0 (g := fun i j => .int (i - j)) (vv 1 rfl) vc))) (vv 3 rfl)) (vv 2 rfl)) ?_
          have s7 : Hs [] H [] _ := (sI.pick [] (by decide) (by walk_at "finL"))
          exact fin (kq  _ s7 ) (by first | exact congrArg V.bl (decide_eq_decide.mpr (fits_iff (by omega) (by omega) (by omega) (by omega) (by omega) (by assumption) (by assumption))) | exact congrArg V.bl (decide_eq_false (fun hz => by obtain ⟨h1, h2, h3, h4, h5, h6⟩ := hz; simp only at h1 h2 h3 h4 h5; omega)).symm)
def sp__law_told (K : PySem.W.Frag) (A : Ads) : Sp := fun vs H Q _ => ∃ (x dx : Addr) (l : Lay), vs = [V.ref x, V.int l.g, V.int l.b, V.int l.z] ∧ (H x = some (.ins A.c_Layout dx [("segments", V.int l.g), ("segment_blocks", V.int l.b), ("block_size", V.int l.z), ("payload", V.int l.pay), ("limit", V.int l.lim), ("last_id", V.int l.last), ("fan", V.int (l.z / 2)), ("region_blocks", V.int l.reg), ("device_blocks", V.int l.dev)])) ∧ (l.ok) ∧ ∀  (H' : Hp), Hs [] H [] H' → Q (V.bl true) H'
theorem ok__law_told (T : Txt K mg A) : FnOk P w K mg base CX0 2 A.a__law_told A.d__law_told ["_law_layout_here", "_law_segments", "_law_blocks", "_law_size"] (sp__law_told K A) := by
  have G__law_is_number : FnOk P w K mg base CX0 1 A.a__law_is_number A.d__law_is_number ["_law_actual"] (sp__law_is_number K A) := ok__law_is_number T
  refine T.F__law_told.ok sc__law_told (fun vs H Q E h => ?_) (fun cdv A' outer s H vs Q E hRm h => ?_)
  · obtain ⟨x, dx, l, rfl, _⟩ := h
    rfl
  · obtain ⟨x, dx, l, rfl, hL, hok, kq⟩ := h
    have hUn := hu_of hRm
    have s0 : Hs [] H [] H := Hs.start H
    refine ⟨_, (pss_cons (ps_set (i := 4) sc__law_told.nd rfl (.inl rfl) (pe_op op_sub (pv 2) pe_int)) (pss_cons (ps_set (i := 5) sc__law_told.nd rfl (.inl rfl) (pe_op op_mul (pe_op op_sub (pv 1) pe_int) (pv 4))) (pss_cons (ps_set (i := 6) sc__law_told.nd rfl (.inl rfl) (pe_op op_add (pv 5) (pv 4))) (pss_cons (ps_set (i := 7) sc__law_told.nd rfl (.inl rfl) (pe_op op_mul pe_int (pe_op op_add (pe_op op_add (pe_op op_add (pv 6) (pe_op op_mul pe_int (pe_op op_add (pv 6) pe_int))) pe_int) (pv 1)))) (pss_cons (ps_set (i := 8) sc__law_told.nd rfl (.inl rfl) pe_int) (pss_cons (ps_while PassesOwn.never (pt_cmpR op_lt (pe_op op_mul (pv 8) (pv 3)) (pv 7) (nomark _)) (pss_cons (ps_set (i := 8) sc__law_told.nd rfl (.inl rfl) (pe_op op_add (pv 8) pe_int)) pss_nil)) (pss_cons (ps_set (i := 9) sc__law_told.nd rfl (.inl rfl) (pe_lst (pa_cons (pe_fld (pv 0) rfl) (pa_cons (pe_fld (pv 0) rfl) (pa_cons (pe_fld (pv 0) rfl) (pa_cons (pe_fld (pv 0) rfl) (pa_cons (pe_fld (pv 0) rfl) pa_nil))))))) (pss_cons (ps_set (i := 9) sc__law_told.nd rfl (.inl rfl) (pe_op op_cat (pv 9) (pe_lst (pa_cons (pe_fld (pv 0) rfl) (pa_cons (pe_fld (pv 0) rfl) (pa_cons (pe_fld (pv 0) rfl) (pa_cons (pe_fld (pv 0) rfl) pa_nil))))))) (pss_cons (ps_set (i := 10) sc__law_told.nd rfl (.inl rfl) (pe_lst (pa_cons (pv 1) (pa_cons (pv 2) (pa_cons (pv 3) (pa_cons (pv 4) (pa_cons (pv 5) (pa_cons (pv 6) (pa_cons (pe_op op_fdiv (pv 3) pe_int) (pa_cons (pv 8) (pa_cons (pe_op op_add (pe_op op_mul pe_int (pv 8)) (pe_op op_mul (pv 1) (pv 2))) pa_nil))))))))))) (pss_cons (ps_for PassesOwn.never rfl (pi_range1 rfl T.z_range (pa_cons pe_int pa_nil)) (pg_name (i := 11) sc__law_told.nd rfl (.inl rfl)) (pss_cons (ps_if (pw_or (pt_not (pt_val (pe_call G__law_is_number (hRm.mono (by decide)) (by rfl) T.g__law_is_number T.F__law_is_number.kp T.b__law_is_number .nil pass0 (pa_cons (pe_ix ix_list (pv 9) (pv 11) (fun _ _ => rfl)) pa_nil)) (fun _ => rfl))) (pw_or1 (pt_cmpR op_ne (pe_ix ix_list (pv 9) (pv 11) (fun _ _ => rfl)) (pe_ix ix_list (pv 10) (pv 11) (fun _ _ => rfl)) (nomark _)))).pt (pss_cons (ps_ret pe_bl) pss_nil) pss_nil) pss_nil)) (pss_cons (ps_ret pe_bl) pss_nil))))))))))), ?_⟩
    refine c_sig [some (V.ref x), some (V.int l.g), some (V.int l.b), some (V.int l.z), none, none, none, none, none, none, none, none] rfl ?_
    have hq := told_eqs l
    obtain ⟨hq1, hq2, hq3, hq4⟩ := hq
    obtain ⟨hl1, hl2, hl3, hl4⟩ := hok.bounds
    have hlz : 64 ≤ l.z ∧ l.z ≤ 256 := by rcases hok.2.2.2.2.1 with h | h | h <;> omega
    have hlg : 4 ≤ l.g ∧ l.g ≤ 16 := ⟨hok.1, hok.2.1⟩
    have hlb : 16 ≤ l.b ∧ l.b ≤ 32 := ⟨hok.2.2.1, hok.2.2.2.1⟩
    obtain ⟨n1, en1⟩ : ∃ n : Int, n = (l.b - 1) := ⟨_, rfl⟩
    refine s_set [some (V.ref x), some (V.int l.g), some (V.int l.b), some (V.int l.z), some (V.int n1), none, none, none, none, none, none, none] (vis (v0 (g := fun i j => .int (i - j)) (vv 2 rfl) vc) (congrArg V.int en1.symm)) rfl ?_
    obtain ⟨n2, en2⟩ : ∃ n : Int, n = ((l.g - 2) * n1) := ⟨_, rfl⟩
    refine s_set [some (V.ref x), some (V.int l.g), some (V.int l.b), some (V.int l.z), some (V.int n1), some (V.int n2), none, none, none, none, none, none] (vis (v1 (C := CMul) (g := fun i j => .int (i * j)) (i := l.g - 2) (j := n1) (by walk_at "cmul2") (v0 (g := fun i j => .int (i - j)) (vv 1 rfl) vc) (vv 4 rfl)) (congrArg V.int en2.symm)) rfl ?_
    obtain ⟨n3, en3⟩ : ∃ n : Int, n = (n2 + n1) := ⟨_, rfl⟩
    refine s_set [some (V.ref x), some (V.int l.g), some (V.int l.b), some (V.int l.z), some (V.int n1), some (V.int n2), some (V.int n3), none, none, none, none, none] (vis (v0 (g := fun i j => .int (i + j)) (vv 5 rfl) (vv 4 rfl)) (congrArg V.int en3.symm)) rfl ?_
    obtain ⟨n4, en4⟩ : ∃ n : Int, n = (2 * (((n3 + (3 * (n3 + 1))) + 3) + l.g)) := ⟨_, rfl⟩
    refine s_set [some (V.ref x), some (V.int l.g), some (V.int l.b), some (V.int l.z), some (V.int n1), some (V.int n2), some (V.int n3), some (V.int n4), none, none, none, none] (vis (v1 (C := CMul) (g := fun i j => .int (i * j)) (i := 2) (j := ((n3 + (3 * (n3 + 1))) + 3) + l.g) (.inl (by walk_at "cmul")) vc (v0 (g := fun i j => .int (i + j)) (v0 (g := fun i j => .int (i + j)) (v0 (g := fun i j => .int (i + j)) (vv 6 rfl) (v1 (C := CMul) (g := fun i j => .int (i * j)) (i := 3) (j := n3 + 1) (.inl (by walk_at "cmul")) vc (v0 (g := fun i j => .int (i + j)) (vv 6 rfl) vc))) vc) (vv 1 rfl))) (congrArg V.int en4.symm)) rfl ?_
    refine s_set [some (V.ref x), some (V.int l.g), some (V.int l.b), some (V.int l.z), some (V.int n1), some (V.int n2), some (V.int n3), some (V.int n4), some (V.int 0), none, none, none] vc rfl ?_
    have hoc : n4 = 2 * (l.last + 3 * (l.last + 1) + 3 + l.g) := by subst_vars; omega
    refine s_while (fun mW σ' H' => ∃ (o : Int), σ' = [some (V.ref x), some (V.int l.g), some (V.int l.b), some (V.int l.z), some (V.int n1), some (V.int n2), some (V.int n3), some (V.int n4), some (V.int o), none, none, none] ∧ Hs [] H [] H' ∧ (0 ≤ o) ∧ (o ≤ l.reg) ∧ mW = (l.reg - o).toNat) _ ⟨0, rfl, s0.pick [] (by decide) (by walk_at "finL"), ?_, ?_, rfl⟩ ?_
    · omega
    · omega
    intro mW σ' H' hP; obtain ⟨o, rfl, sI, hI0, hI1, hmW⟩ := hP
    skip
    refine (vtest (v0 (g := fun i j => .bl (decide (i < j))) (v1 (C := CMul) (g := fun i j => .int (i * j)) (i := o) (j := l.z) (by walk_at "cmul2") (vv 8 rfl) (vv 3 rfl)) (vv 7 rfl))) _ ?_
    refine c_ite (p := (o * l.z) < n4) (fun h5 => ?_) (fun h5 => ?_)
    · -- a turn
      refine ⟨_, fun _ _ hN => hN, ?_⟩
      refine c_sig [some (V.ref x), some (V.int l.g), some (V.int l.b), some (V.int l.z), some (V.int n1), some (V.int n2), some (V.int n3), some (V.int n4), some (V.int o), none, none, none] rfl ?_
      obtain ⟨n6, en6⟩ : ∃ n : Int, n = (o + 1) := ⟨_, rfl⟩
      refine s_set [some (V.ref x), some (V.int l.g), some (V.int l.b), some (V.int l.z), some (V.int n1), some (V.int n2), some (V.int n3), some (V.int n4), some (V.int n6), none, none, none] (vis (v0 (g := fun i j => .int (i + j)) (vv 8 rfl) vc) (congrArg V.int en6.symm)) rfl ?_
      refine s_nx ?_
      refine ⟨_, ?_, n6, rfl, sI.pick [] (by decide) (by walk_at "finL"), ?_, ?_, rfl⟩
      · have hst := reg_step hok hoc (by assumption)
        omega
      · omega
      · have hst := reg_step hok hoc (by assumption)
        omega
    · -- behind the loop
      have hend := reg_end hok hoc (by assumption)
      refine c_set ?_
      refine c_lst ?_
      refine c_cons ?_
      obtain ⟨n7, en7⟩ : ∃ n : Int, n = (l.g) := ⟨_, rfl⟩
      refine (vis (vfld (vv 0 rfl) (sI.same _ _ hL) T.cl_Layout T.na_Layout_segments (by rfl)) (congrArg V.int en7.symm)) _ ?_
      refine c_cons ?_
      obtain ⟨n8, en8⟩ : ∃ n : Int, n = (l.b) := ⟨_, rfl⟩
      refine (vis (vfld (vv 0 rfl) (sI.same _ _ hL) T.cl_Layout T.na_Layout_segment_blocks (by rfl)) (congrArg V.int en8.symm)) _ ?_
      refine c_cons ?_
      obtain ⟨n9, en9⟩ : ∃ n : Int, n = (l.z) := ⟨_, rfl⟩
      refine (vis (vfld (vv 0 rfl) (sI.same _ _ hL) T.cl_Layout T.na_Layout_block_size (by rfl)) (congrArg V.int en9.symm)) _ ?_
      refine c_cons ?_
      obtain ⟨n10, en10⟩ : ∃ n : Int, n = (l.pay) := ⟨_, rfl⟩
      refine (vis (vfld (vv 0 rfl) (sI.same _ _ hL) T.cl_Layout T.na_Layout_payload (by rfl)) (congrArg V.int en10.symm)) _ ?_
      refine c_cons ?_
      obtain ⟨n11, en11⟩ : ∃ n : Int, n = (l.lim) := ⟨_, rfl⟩
      refine (vis (vfld (vv 0 rfl) (sI.same _ _ hL) T.cl_Layout T.na_Layout_limit (by rfl)) (congrArg V.int en11.symm)) _ ?_
      refine c_nil ?_
      refine ⟨sz1 (by show 5 ≤ 1000000; decide), fun p12 np12 => ?_⟩
      have s13 : Hs [] H [(p12, .lst ([V.int n7, V.int n8, V.int n9, V.int n10, V.int n11]))] _ := sI.new np12 (.lst ([V.int n7, V.int n8, V.int n9, V.int n10, V.int n11]))
      refine k_set [some (V.ref x), some (V.int l.g), some (V.int l.b), some (V.int l.z), some (V.int n1), some (V.int n2), some (V.int n3), some (V.int n4), some (V.int o), some (V.ref p12), none, none] rfl ?_
      refine c_set ?_
      refine c_op ?_
      refine (vv 9 rfl) _ ?_
      refine c_lst ?_
      refine c_cons ?_
      obtain ⟨n14, en14⟩ : ∃ n : Int, n = (l.last) := ⟨_, rfl⟩
      refine (vis (vfld (vv 0 rfl) (s13.same _ _ hL) T.cl_Layout T.na_Layout_last_id (by rfl)) (congrArg V.int en14.symm)) _ ?_
      refine c_cons ?_
      obtain ⟨n15, en15⟩ : ∃ n : Int, n = (l.z / 2) := ⟨_, rfl⟩
      refine (vis (vfld (vv 0 rfl) (s13.same _ _ hL) T.cl_Layout T.na_Layout_fan (by rfl)) (congrArg V.int en15.symm)) _ ?_
      refine c_cons ?_
      obtain ⟨n16, en16⟩ : ∃ n : Int, n = (l.reg) := ⟨_, rfl⟩
      refine (vis (vfld (vv 0 rfl) (s13.same _ _ hL) T.cl_Layout T.na_Layout_region_blocks (by rfl)) (congrArg V.int en16.symm)) _ ?_
      refine c_cons ?_
      obtain ⟨n17, en17⟩ : ∃ n : Int, n = (l.dev) := ⟨_, rfl⟩
      refine (vis (vfld (vv 0 rfl) (s13.same _ _ hL) T.cl_Layout T.na_Layout_device_blocks (by rfl)) (congrArg V.int en17.symm)) _ ?_
      refine c_nil ?_
      refine ⟨sz1 (by show 4 ≤ 1000000; decide), fun p18 np18 => ?_⟩
      have s19 : Hs [] H [(p18, .lst ([V.int n14, V.int n15, V.int n16, V.int n17])), (p12, .lst ([V.int n7, V.int n8, V.int n9, V.int n10, V.int n11]))] _ := s13.new np18 (.lst ([V.int n14, V.int n15, V.int n16, V.int n17]))
      refine c_cat (s19.mem 1 rfl) (s19.mem 0 rfl) (by walk_at "side") (fun p20 np20 => ?_)
      have s21 : Hs [] H [(p20, .lst ([V.int n7, V.int n8, V.int n9, V.int n10, V.int n11, V.int n14, V.int n15, V.int n16, V.int n17])), (p18, .lst ([V.int n14, V.int n15, V.int n16, V.int n17])), (p12, .lst ([V.int n7, V.int n8, V.int n9, V.int n10, V.int n11]))] _ := (s19.new np20 (.lst (([V.int n7, V.int n8, V.int n9, V.int n10, V.int n11]) ++ ([V.int n14, V.int n15, V.int n16, V.int n17])))).top (rfl)
      refine k_set [some (V.ref x), some (V.int l.g), some (V.int l.b), some (V.int l.z), some (V.int n1), some (V.int n2), some (V.int n3), some (V.int n4), some (V.int o), some (V.ref p20), none, none] rfl ?_
      refine c_set ?_
      refine c_lst ?_
      refine c_cons ?_
      refine (vis (vv 1 rfl) (congrArg V.int en7.symm)) _ ?_
      refine c_cons ?_
      refine (vis (vv 2 rfl) (congrArg V.int en8.symm)) _ ?_
      refine c_cons ?_
      refine (vis (vv 3 rfl) (congrArg V.int en9.symm)) _ ?_
      refine c_cons ?_
      refine (vv 4 rfl) _ ?_
      refine c_cons ?_
      refine (vv 5 rfl) _ ?_
      refine c_cons ?_
      refine (vv 6 rfl) _ ?_
      refine c_cons ?_
      refine (vis (v1 (C := CDiv) (g := fun i j => .int (i / j)) (i := l.z) (j := 2) ⟨by walk_at "side", by walk_at "side"⟩ (vv 3 rfl) vc) (congrArg V.int en15.symm)) _ ?_
      refine c_cons ?_
      refine (vv 8 rfl) _ ?_
      refine c_cons ?_
      obtain ⟨n22, en22⟩ : ∃ n : Int, n = ((2 * o) + (l.g * l.b)) := ⟨_, rfl⟩
      refine (vis (v0 (g := fun i j => .int (i + j)) (v1 (C := CMul) (g := fun i j => .int (i * j)) (i := 2) (j := o) (.inl (by walk_at "cmul")) vc (vv 8 rfl)) (v1 (C := CMul) (g := fun i j => .int (i * j)) (i := l.g) (j := l.b) (by walk_at "cmul2") (vv 1 rfl) (vv 2 rfl))) (congrArg V.int en22.symm)) _ ?_
      refine c_nil ?_
      refine ⟨sz1 (by show 9 ≤ 1000000; decide), fun p23 np23 => ?_⟩
      have s24 : Hs [] H [(p23, .lst ([V.int n7, V.int n8, V.int n9, V.int n1, V.int n2, V.int n3, V.int n15, V.int o, V.int n22])), (p20, .lst ([V.int n7, V.int n8, V.int n9, V.int n10, V.int n11, V.int n14, V.int n15, V.int n16, V.int n17])), (p18, .lst ([V.int n14, V.int n15, V.int n16, V.int n17])), (p12, .lst ([V.int n7, V.int n8, V.int n9, V.int n10, V.int n11]))] _ := s21.new np23 (.lst ([V.int n7, V.int n8, V.int n9, V.int n1, V.int n2, V.int n3, V.int n15, V.int o, V.int n22]))
      refine k_set [some (V.ref x), some (V.int l.g), some (V.int l.b), some (V.int l.z), some (V.int n1), some (V.int n2), some (V.int n3), some (V.int n4), some (V.int o), some (V.ref p20), some (V.ref p23), none] rfl ?_
      refine s_unrR1 (m := 9) (va vc va0) (by decide) ?_
      refine u_next ?_
      refine c_sig [some (V.ref x), some (V.int l.g), some (V.int l.b), some (V.int l.z), some (V.int n1), some (V.int n2), some (V.int n3), some (V.int n4), some (V.int o), some (V.ref p20), some (V.ref p23), some (V.int 0)] rfl ?_
      refine s_if (p := (¬ (true = true)) ∨ (n7 ≠ n7)) (aor (anot (vB (vbool (vcall (va (vixL (vv 9 rfl) (vv 11 rfl) (xs := _) (s24.l 1 rfl) (by rfl)) va0) (fun _ kC => ⟨n7, rfl, kC⟩))))) (fun hc => (vtest (vne (vixL (vv 9 rfl) (vv 11 rfl) (xs := _) (s24.l 1 rfl) (by rfl)) (vixL (vv 10 rfl) (vv 11 rfl) (xs := _) (s24.l 0 rfl) (by rfl)))))) (fun h25 => ?_) (fun h25 => ?_)
      · -- then line 102
        refine s_ret vc ?_
        exfalso; first | contradiction | (subst_vars; omega) | (rename_i hz; simp at hz; done) | walk_at "dead"
      · -- else line 102
        refine s_nxs ?_
        refine s_nxu ?_
        refine u_next ?_
        refine c_sig [some (V.ref x), some (V.int l.g), some (V.int l.b), some (V.int l.z), some (V.int n1), some (V.int n2), some (V.int n3), some (V.int n4), some (V.int o), some (V.ref p20), some (V.ref p23), some (V.int 1)] rfl ?_
        refine s_if (p := (¬ (true = true)) ∨ (n8 ≠ n8)) (aor (anot (vB (vbool (vcall (va (vixL (vv 9 rfl) (vv 11 rfl) (xs := _) (s24.l 1 rfl) (by rfl)) va0) (fun _ kC => ⟨n8, rfl, kC⟩))))) (fun hc => (vtest (vne (vixL (vv 9 rfl) (vv 11 rfl) (xs := _) (s24.l 1 rfl) (by rfl)) (vixL (vv 10 rfl) (vv 11 rfl) (xs := _) (s24.l 0 rfl) (by rfl)))))) (fun h26 => ?_) (fun h26 => ?_)
        · -- then line 102
          refine s_ret vc ?_
          exfalso; first | contradiction | (subst_vars; omega) | (rename_i hz; simp at hz; done) | walk_at "dead"
        · -- else line 102
          refine s_nxs ?_
          refine s_nxu ?_
          refine u_next ?_
          refine c_sig [some (V.ref x), some (V.int l.g), some (V.int l.b), some (V.int l.z), some (V.int n1), some (V.int n2), some (V.int n3), some (V.int n4), some (V.int o), some (V.ref p20), some (V.ref p23), some (V.int 2)] rfl ?_
          refine s_if (p := (¬ (true = true)) ∨ (n9 ≠ n9)) (aor (anot (vB (vbool (vcall (va (vixL (vv 9 rfl) (vv 11 rfl) (xs := _) (s24.l 1 rfl) (by rfl)) va0) (fun _ kC => ⟨n9, rfl, kC⟩))))) (fun hc => (vtest (vne (vixL (vv 9 rfl) (vv 11 rfl) (xs := _) (s24.l 1 rfl) (by rfl)) (vixL (vv 10 rfl) (vv 11 rfl) (xs := _) (s24.l 0 rfl) (by rfl)))))) (fun h27 => ?_) (fun h27 => ?_)
          · -- then line 102
            refine s_ret vc ?_
            exfalso; first | contradiction | (subst_vars; omega) | (rename_i hz; simp at hz; done) | walk_at "dead"
          · -- else line 102
            refine s_nxs ?_
            refine s_nxu ?_
            refine u_next ?_
            refine c_sig [some (V.ref x), some (V.int l.g), some (V.int l.b), some (V.int l.z), some (V.int n1), some (V.int n2), some (V.int n3), some (V.int n4), some (V.int o), some (V.ref p20), some (V.ref p23), some (V.int 3)] rfl ?_
            refine s_if (p := (¬ (true = true)) ∨ (n10 ≠ n1)) (aor (anot (vB (vbool (vcall (va (vixL (vv 9 rfl) (vv 11 rfl) (xs := _) (s24.l 1 rfl) (by rfl)) va0) (fun _ kC => ⟨n10, rfl, kC⟩))))) (fun hc => (vtest (vne (vixL (vv 9 rfl) (vv 11 rfl) (xs := _) (s24.l 1 rfl) (by rfl)) (vixL (vv 10 rfl) (vv 11 rfl) (xs := _) (s24.l 0 rfl) (by rfl)))))) (fun h28 => ?_) (fun h28 => ?_)
            · -- then line 102
              refine s_ret vc ?_
              exfalso; first | contradiction | (subst_vars; omega) | (rename_i hz; simp at hz; done) | walk_at "dead"
            · -- else line 102
              refine s_nxs ?_
              refine s_nxu ?_
              refine u_next ?_
              refine c_sig [some (V.ref x), some (V.int l.g), some (V.int l.b), some (V.int l.z), some (V.int n1), some (V.int n2), some (V.int n3), some (V.int n4), some (V.int o), some (V.ref p20), some (V.ref p23), some (V.int 4)] rfl ?_
              refine s_if (p := (¬ (true = true)) ∨ (n11 ≠ n2)) (aor (anot (vB (vbool (vcall (va (vixL (vv 9 rfl) (vv 11 rfl) (xs := _) (s24.l 1 rfl) (by rfl)) va0) (fun _ kC => ⟨n11, rfl, kC⟩))))) (fun hc => (vtest (vne (vixL (vv 9 rfl) (vv 11 rfl) (xs := _) (s24.l 1 rfl) (by rfl)) (vixL (vv 10 rfl) (vv 11 rfl) (xs := _) (s24.l 0 rfl) (by rfl)))))) (fun h29 => ?_) (fun h29 => ?_)
              · -- then line 102
                refine s_ret vc ?_
                exfalso; first | contradiction | (subst_vars; omega) | (rename_i hz; simp at hz; done) | walk_at "dead"
              · -- else line 102
                refine s_nxs ?_
                refine s_nxu ?_
                refine u_next ?_
                refine c_sig [some (V.ref x), some (V.int l.g), some (V.int l.b), some (V.int l.z), some (V.int n1), some (V.int n2), some (V.int n3), some (V.int n4), some (V.int o), some (V.ref p20), some (V.ref p23), some (V.int 5)] rfl ?_
                refine s_if (p := (¬ (true = true)) ∨ (n14 ≠ n3)) (aor (anot (vB (vbool (vcall (va (vixL (vv 9 rfl) (vv 11 rfl) (xs := _) (s24.l 1 rfl) (by rfl)) va0) (fun _ kC => ⟨n14, rfl, kC⟩))))) (fun hc => (vtest (vne (vixL (vv 9 rfl) (vv 11 rfl) (xs := _) (s24.l 1 rfl) (by rfl)) (vixL (vv 10 rfl) (vv 11 rfl) (xs := _) (s24.l 0 rfl) (by rfl)))))) (fun h30 => ?_) (fun h30 => ?_)
                · -- then line 102
                  refine s_ret vc ?_
                  exfalso; first | contradiction | (subst_vars; omega) | (rename_i hz; simp at hz; done) | walk_at "dead"
                · -- else line 102
                  refine s_nxs ?_
                  refine s_nxu ?_
                  refine u_next ?_
                  refine c_sig [some (V.ref x), some (V.int l.g), some (V.int l.b), some (V.int l.z), some (V.int n1), some (V.int n2), some (V.int n3), some (V.int n4), some (V.int o), some (V.ref p20), some (V.ref p23), some (V.int 6)] rfl ?_
                  refine s_if (p := (¬ (true = true)) ∨ (n15 ≠ n15)) (aor (anot (vB (vbool (vcall (va (vixL (vv 9 rfl) (vv 11 rfl) (xs := _) (s24.l 1 rfl) (by rfl)) va0) (fun _ kC => ⟨n15, rfl, kC⟩))))) (fun hc => (vtest (vne (vixL (vv 9 rfl) (vv 11 rfl) (xs := _) (s24.l 1 rfl) (by rfl)) (vixL (vv 10 rfl) (vv 11 rfl) (xs := _) (s24.l 0 rfl) (by rfl)))))) (fun h31 => ?_) (fun h31 => ?_)
                  · -- then line 102
                    refine s_ret vc ?_
                    exfalso; first | contradiction | (subst_vars; omega) | (rename_i hz; simp at hz; done) | walk_at "dead"
                  · -- else line 102
                    refine s_nxs ?_
                    refine s_nxu ?_
                    refine u_next ?_
                    refine c_sig [some (V.ref x), some (V.int l.g), some (V.int l.b), some (V.int l.z), some (V.int n1), some (V.int n2), some (V.int n3), some (V.int n4), some (V.int o), some (V.ref p20), some (V.ref p23), some (V.int 7)] rfl ?_
                    refine s_if (p := (¬ (true = true)) ∨ (n16 ≠ o)) (aor (anot (vB (vbool (vcall (va (vixL (vv 9 rfl) (vv 11 rfl) (xs := _) (s24.l 1 rfl) (by rfl)) va0) (fun _ kC => ⟨n16, rfl, kC⟩))))) (fun hc => (vtest (vne (vixL (vv 9 rfl) (vv 11 rfl) (xs := _) (s24.l 1 rfl) (by rfl)) (vixL (vv 10 rfl) (vv 11 rfl) (xs := _) (s24.l 0 rfl) (by rfl)))))) (fun h32 => ?_) (fun h32 => ?_)
                    · -- then line 102
                      refine s_ret vc ?_
                      exfalso; first | contradiction | (subst_vars; omega) | (rename_i hz; simp at hz; done) | walk_at "dead"
                    · -- else line 102
                      refine s_nxs ?_
                      refine s_nxu ?_
                      refine u_next ?_
                      refine c_sig [some (V.ref x), some (V.int l.g), some (V.int l.b), some (V.int l.z), some (V.int n1), some (V.int n2), some (V.int n3), some (V.int n4), some (V.int o), some (V.ref p20), some (V.ref p23), some (V.int 8)] rfl ?_
                      refine s_if (p := (¬ (true = true)) ∨ (n17 ≠ n22)) (aor (anot (vB (vbool (vcall (va (vixL (vv 9 rfl) (vv 11 rfl) (xs := _) (s24.l 1 rfl) (by rfl)) va0) (fun _ kC => ⟨n17, rfl, kC⟩))))) (fun hc => (vtest (vne (vixL (vv 9 rfl) (vv 11 rfl) (xs := _) (s24.l 1 rfl) (by rfl)) (vixL (vv 10 rfl) (vv 11 rfl) (xs := _) (s24.l 0 rfl) (by rfl)))))) (fun h33 => ?_) (fun h33 => ?_)
                      · -- then line 102
                        refine s_ret vc ?_
                        exfalso; first | contradiction | (subst_vars; omega) | (rename_i hz; simp at hz; done) | walk_at "dead"
                      · -- else line 102
                        refine s_nxs ?_
                        refine s_nxu ?_
                        refine u_done ?_
                        refine s_ret vc ?_
                        have s34 : Hs [] H [] _ := (s24.pick [] (by decide) (by walk_at "finL"))
                        exact fin (kq  _ s34 ) (by first | rfl | simp)
def sp__law_any_layout (K : PySem.W.Frag) (A : Ads) : Sp := fun vs H Q _ => ∃ (a : Addr) (bx : Int), vs = [V.ref a] ∧ (H a = some (.lst [V.int bx])) ∧ ∀ (p dx : Addr) (l : Lay) (bq : Int) (H' : Hp), Hs [a] H [(p, .ins A.c_Layout dx [("segments", V.int l.g), ("segment_blocks", V.int l.b), ("block_size", V.int l.z), ("payload", V.int l.pay), ("limit", V.int l.lim), ("last_id", V.int l.last), ("fan", V.int (l.z / 2)), ("region_blocks", V.int l.reg), ("device_blocks", V.int l.dev)]), (a, .lst ([V.int bq]))] H' → (l.ok) → Q (V.ref p) H'
theorem ok__law_any_layout (T : Txt K mg A) : FnOk P w K mg base CX0 5 A.a__law_any_layout A.d__law_any_layout ["_law_box"] (sp__law_any_layout K A) := by
  have G__law_take : FnOk P w K mg base CX0 1 A.a__law_take A.d__law_take ["_law_box", "_law_size"] (sp__law_take K A) := ok__law_take T
  have G__law_layout : FnOk P w K mg base CX0 4 A.a__law_layout A.d__law_layout ["_law_digit"] (sp__law_layout K A) := ok__law_layout T
  have G_Layout___init__ : FnOk P w K mg base CX0 2 A.a_Layout___init__ A.d_Layout___init__ ["self", "segments", "segment_blocks", "block_size"] (sp_Layout___init__ K A) := ok_Layout___init__ T
  refine T.F__law_any_layout.ok sc__law_any_layout (fun vs H Q E h => ?_) (fun cdv A' outer s H vs Q E hRm h => ?_)
  · obtain ⟨a, bx, rfl, _⟩ := h
    rfl
  · obtain ⟨a, bx, rfl, hc_a, kq⟩ := h
    have hUn := hu_of hRm
    have s0 : Hs [a] H [(a, .lst ([V.int bx]))] H := Hs.start1 hc_a
    refine ⟨_, (pss_cons (ps_if (pt_cmpR op_eq (pe_call G__law_take (hRm.mono (by decide)) (by rfl) T.g__law_take T.F__law_take.kp T.b__law_take .nil pass0 (pa_cons (pv 0) (pa_cons pe_int pa_nil))) pe_int (nomark _)) (pss_cons (ps_ret (pe_call G__law_layout (hRm.mono (by decide)) (by rfl) T.g__law_layout T.F__law_layout.kp T.b__law_layout .nil pass0 (pa_cons (pe_call G__law_take (hRm.mono (by decide)) (by rfl) T.g__law_take T.F__law_take.kp T.b__law_take .nil pass0 (pa_cons (pv 0) (pa_cons pe_int pa_nil))) pa_nil))) pss_nil) pss_nil) (pss_cons (ps_ret (pe_make T.mk_Layout G_Layout___init__ (hRm.mono (by decide)) (by rfl) T.g_Layout T.b_Layout___init__ .nil pass0 (pa_cons (pe_op op_add pe_int (pe_call G__law_take (hRm.mono (by decide)) (by rfl) T.g__law_take T.F__law_take.kp T.b__law_take .nil pass0 (pa_cons (pv 0) (pa_cons pe_int pa_nil)))) (pa_cons (pe_op op_add pe_int (pe_call G__law_take (hRm.mono (by decide)) (by rfl) T.g__law_take T.F__law_take.kp T.b__law_take .nil pass0 (pa_cons (pv 0) (pa_cons pe_int pa_nil)))) (pa_cons pe_int pa_nil))))) pss_nil)), ?_⟩
    refine c_sig [some (V.ref a)] rfl ?_
    refine c_ifS ?_
    refine c_test ?_
    refine c_op ?_
    refine c_callx ?_
    refine c_cons ?_
    refine (vv 0 rfl) _ ?_
    refine c_cons ?_
    refine vc _ ?_
    refine c_nil ?_
    refine ⟨a, bx, 2, rfl, (s0.mem 0 rfl), (by walk_at "side"), (by walk_at "side"), fun H3 r4 => ?_⟩
    have s5 : Hs [a] H [(a, .lst ([V.int (bx / 2)]))] _ := s0.call (R := []) r4 [] (by simp) (by decide) rfl (s0.sep [] [0] (by decide) rfl rfl)
    refine vc _ ?_
    refine r_eqI (a := bx % 2) (b := 0) ?_
    refine ⟨_, rfl, ?_⟩
    refine c_ite (p := (bx % 2) = 0) (fun h2 => ?_) (fun h2 => ?_)
    · -- yes
      refine c_ret ?_
      refine c_callx ?_
      refine c_cons ?_
      refine c_callx ?_
      refine c_cons ?_
      refine (vv 0 rfl) _ ?_
      refine c_cons ?_
      refine vc _ ?_
      refine c_nil ?_
      refine ⟨a, (bx / 2), 8, rfl, (s5.mem 0 rfl), (by walk_at "side"), (by walk_at "side"), fun H6 r7 => ?_⟩
      have s8 : Hs [a] H [(a, .lst ([V.int ((bx / 2) / 8)]))] _ := s5.call (R := []) r7 [] (by simp) (by decide) rfl (s5.sep [] [0] (by decide) rfl rfl)
      refine c_nil ?_
      refine ⟨((bx / 2) % 8), rfl, fun p_9 dx_10 l_11 H12 r13 f14 => ?_⟩
      have s15 : Hs [a] H [(p_9, .ins A.c_Layout dx_10 [("segments", V.int l_11.g), ("segment_blocks", V.int l_11.b), ("block_size", V.int l_11.z), ("payload", V.int l_11.pay), ("limit", V.int l_11.lim), ("last_id", V.int l_11.last), ("fan", V.int (l_11.z / 2)), ("region_blocks", V.int l_11.reg), ("device_blocks", V.int l_11.dev)]), (a, .lst ([V.int ((bx / 2) / 8)]))] _ := s8.call0 r13
      have s16 : Hs [a] H [(p_9, .ins A.c_Layout dx_10 [("segments", V.int l_11.g), ("segment_blocks", V.int l_11.b), ("block_size", V.int l_11.z), ("payload", V.int l_11.pay), ("limit", V.int l_11.lim), ("last_id", V.int l_11.last), ("fan", V.int (l_11.z / 2)), ("region_blocks", V.int l_11.reg), ("device_blocks", V.int l_11.dev)]), (a, .lst ([V.int ((bx / 2) / 8)]))] _ := (s15.pick [0, 1] (by decide) (by walk_at "finL"))
      exact fin (kq p_9 dx_10 l_11 ((bx / 2) / 8) _ s16 (by first | rfl | assumption | exact lay_256 (by omega) (by omega) (by omega) (by omega))) (by first | rfl | assumption | exact lay_256 (by omega) (by omega) (by omega) (by omega))
    · -- no
      refine s_nxs ?_
      refine c_ret ?_
      refine c_make ?_
      refine c_cons ?_
      refine c_op ?_
      refine vc _ ?_
      refine c_callx ?_
      refine c_cons ?_
      refine (vv 0 rfl) _ ?_
      refine c_cons ?_
      refine vc _ ?_
      refine c_nil ?_
      refine ⟨a, (bx / 2), 13, rfl, (s5.mem 0 rfl), (by walk_at "side"), (by walk_at "side"), fun H17 r18 => ?_⟩
      have s19 : Hs [a] H [(a, .lst ([V.int ((bx / 2) / 13)]))] _ := s5.call (R := []) r18 [] (by simp) (by decide) rfl (s5.sep [] [0] (by decide) rfl rfl)
      refine ⟨_, _, rfl, rfl, ?_⟩
      refine c_cons ?_
      refine c_op ?_
      refine vc _ ?_
      refine c_callx ?_
      refine c_cons ?_
      refine (vv 0 rfl) _ ?_
      refine c_cons ?_
      refine vc _ ?_
      refine c_nil ?_
      refine ⟨a, ((bx / 2) / 13), 17, rfl, (s19.mem 0 rfl), (by walk_at "side"), (by walk_at "side"), fun H20 r21 => ?_⟩
      have s22 : Hs [a] H [(a, .lst ([V.int (((bx / 2) / 13) / 17)]))] _ := s19.call (R := []) r21 [] (by simp) (by decide) rfl (s19.sep [] [0] (by decide) rfl rfl)
      refine ⟨_, _, rfl, rfl, ?_⟩
      refine c_cons ?_
      refine vc _ ?_
      refine c_nil ?_
      intro p23 d24 np23 nd24 nep23
      have s25 := (s22.new nd24 (.own p23)).new (upd_none np23 nep23) (.ins A.c_Layout d24 [])
      refine ⟨p23, d24, (⟨4 + ((bx / 2) % 13), 16 + (((bx / 2) / 13) % 17), 256⟩ : Lay), rfl, (s25.mem 0 rfl), (by exact lay_256 (by omega) (by omega) (by omega) (by omega)), fun H26 r27 => ?_⟩
      have s28 : Hs [a] H [(p23, .ins A.c_Layout d24 [("segments", V.int ((⟨4 + ((bx / 2) % 13), 16 + (((bx / 2) / 13) % 17), 256⟩ : Lay).g)), ("segment_blocks", V.int ((⟨4 + ((bx / 2) % 13), 16 + (((bx / 2) / 13) % 17), 256⟩ : Lay).b)), ("block_size", V.int ((⟨4 + ((bx / 2) % 13), 16 + (((bx / 2) / 13) % 17), 256⟩ : Lay).z)), ("payload", V.int ((⟨4 + ((bx / 2) % 13), 16 + (((bx / 2) / 13) % 17), 256⟩ : Lay).pay)), ("limit", V.int ((⟨4 + ((bx / 2) % 13), 16 + (((bx / 2) / 13) % 17), 256⟩ : Lay).lim)), ("last_id", V.int ((⟨4 + ((bx / 2) % 13), 16 + (((bx / 2) / 13) % 17), 256⟩ : Lay).last)), ("fan", V.int ((⟨4 + ((bx / 2) % 13), 16 + (((bx / 2) / 13) % 17), 256⟩ : Lay).z / 2)), ("region_blocks", V.int ((⟨4 + ((bx / 2) % 13), 16 + (((bx / 2) / 13) % 17), 256⟩ : Lay).reg)), ("device_blocks", V.int ((⟨4 + ((bx / 2) % 13), 16 + (((bx / 2) / 13) % 17), 256⟩ : Lay).dev))]), (d24, .own p23), (a, .lst ([V.int (((bx / 2) / 13) / 17)]))] _ := s25.call (R := [(d24, .own p23), (a, .lst ([V.int (((bx / 2) / 13) / 17)]))]) r27 [1, 2] (by simp) (by decide) rfl (s25.sep [1, 2] [0] (by decide) rfl rfl)
      refine ⟨rfl, ?_⟩
      have s29 : Hs [a] H [(p23, .ins A.c_Layout d24 [("segments", V.int (⟨4 + ((bx / 2) % 13), 16 + (((bx / 2) / 13) % 17), 256⟩ : Lay).g), ("segment_blocks", V.int (⟨4 + ((bx / 2) % 13), 16 + (((bx / 2) / 13) % 17), 256⟩ : Lay).b), ("block_size", V.int (⟨4 + ((bx / 2) % 13), 16 + (((bx / 2) / 13) % 17), 256⟩ : Lay).z), ("payload", V.int (⟨4 + ((bx / 2) % 13), 16 + (((bx / 2) / 13) % 17), 256⟩ : Lay).pay), ("limit", V.int (⟨4 + ((bx / 2) % 13), 16 + (((bx / 2) / 13) % 17), 256⟩ : Lay).lim), ("last_id", V.int (⟨4 + ((bx / 2) % 13), 16 + (((bx / 2) / 13) % 17), 256⟩ : Lay).last), ("fan", V.int ((⟨4 + ((bx / 2) % 13), 16 + (((bx / 2) / 13) % 17), 256⟩ : Lay).z / 2)), ("region_blocks", V.int (⟨4 + ((bx / 2) % 13), 16 + (((bx / 2) / 13) % 17), 256⟩ : Lay).reg), ("device_blocks", V.int (⟨4 + ((bx / 2) % 13), 16 + (((bx / 2) / 13) % 17), 256⟩ : Lay).dev)]), (a, .lst ([V.int (((bx / 2) / 13) / 17)]))] _ := (s28.pick [0, 2] (by decide) (by walk_at "finL"))
      exact fin (kq p23 d24 (⟨4 + ((bx / 2) % 13), 16 + (((bx / 2) / 13) % 17), 256⟩ : Lay) (((bx / 2) / 13) / 17) _ s29 (by first | rfl | assumption | exact lay_256 (by omega) (by omega) (by omega) (by omega))) (by first | rfl | assumption | exact lay_256 (by omega) (by omega) (by omega) (by omega))
def sp__law_same_0 (K : PySem.W.Frag) (A : Ads) : Sp := fun vs H Q _ => vs = [V.non, V.non] ∧ ∀  (H' : Hp), Hs [] H [] H' → Q (V.bl true) H'
def sp__law_same_1 (K : PySem.W.Frag) (A : Ads) : Sp := fun vs H Q _ => ∃ (u v : Int), vs = [V.int u, V.int v] ∧ ∀  (H' : Hp), Hs [] H [] H' → Q (V.bl (decide (u = v))) H'
def sp__law_same (K : PySem.W.Frag) (A : Ads) : Sp := fun vs H Q E => sp__law_same_0 K A vs H Q E ∨ sp__law_same_1 K A vs H Q E
theorem ok__law_same (T : Txt K mg A) : FnOk P w K mg base CX0 2 A.a__law_same A.d__law_same ["_law_actual", "_law_due"] (sp__law_same K A) := by
  have G__law_is_number : FnOk P w K mg base CX0 1 A.a__law_is_number A.d__law_is_number ["_law_actual"] (sp__law_is_number K A) := ok__law_is_number T
  refine T.F__law_same.ok sc__law_same (fun vs H Q E h => ?_) (fun cdv A' outer s H vs Q E hRm h => ?_)
  · rcases h with h | h
    · obtain ⟨rfl, _⟩ := h
      rfl
    · obtain ⟨u, v, rfl, _⟩ := h
      rfl
  · rcases h with h | h
    · obtain ⟨rfl, kq⟩ := h
      have hUn := hu_of hRm
      have s0 : Hs [] H [] H := Hs.start H
      refine ⟨_, (pss_cons (ps_if (pt_cmpR op_isN (pv 1) pe_non (nomark _)) (pss_cons (ps_ret (pe_cmpR op_isN (pv 0) pe_non (nomark _))) pss_nil) pss_nil) (pss_cons ps_never pss_nil)), ?_⟩
      refine c_sig [some (V.non), some (V.non)] rfl ?_
      refine s_if (p := V.non = V.non) (vtest (visN (vv 1 rfl))) (fun h1 => ?_) (fun h1 => ?_)
      · -- then line 122
        refine s_ret (visN (vv 0 rfl)) ?_
        have s2 : Hs [] H [] _ := (s0.pick [] (by decide) (by walk_at "finL"))
        exact fin (kq  _ s2 ) (by first | rfl | exact congrArg V.bl (decide_eq_decide.mpr (by simp)) | (simp; done))
      · -- else line 122
        exfalso; walk_at "dead"
    · obtain ⟨u, v, rfl, kq⟩ := h
      have hUn := hu_of hRm
      have s0 : Hs [] H [] H := Hs.start H
      refine ⟨_, (pss_cons (ps_if (pt_cmpR op_isN (pv 1) pe_non (nomark _)) (pss_cons ps_never pss_nil) pss_nil) (pss_cons (ps_ret (pe_and (pe_call G__law_is_number (hRm.mono (by decide)) (by rfl) T.g__law_is_number T.F__law_is_number.kp T.b__law_is_number .nil pass0 (pa_cons (pv 0) pa_nil)) (pe_one (pe_cmpR op_eq (pv 0) (pv 1) (nomark _))))) pss_nil)), ?_⟩
      refine c_sig [some (V.int u), some (V.int v)] rfl ?_
      refine s_if (p := V.int v = V.non) (vtest (visN (vv 1 rfl))) (fun h3 => ?_) (fun h3 => ?_)
      · -- then line 122
        exfalso; walk_at "dead"
      · -- else line 122
        refine s_nxs ?_
        refine s_ret (vand (vbool (vcall (va (vv 0 rfl) va0) (fun _ kC => ⟨u, rfl, kC⟩))) (fun hc => (veq (vv 0 rfl) (vv 1 rfl)))) ?_
        have s4 : Hs [] H [] _ := (s0.pick [] (by decide) (by walk_at "finL"))
        exact fin (kq  _ s4 ) (by first | rfl | exact congrArg V.bl (decide_eq_decide.mpr (by simp)) | (simp; done))
def sp__law_parts (K : PySem.W.Frag) (A : Ads) : Sp := fun vs H Q _ => ∃ (nu sz : Int), vs = [V.int nu, V.int sz] ∧ (0 ≤ nu) ∧ (0 < sz) ∧ (sz < 1000000000000000000) ∧ Q (V.int ((nu + sz - 1) / sz)) H
theorem ok__law_parts (T : Txt K mg A) : FnOk P w K mg base CX0 1 A.a__law_parts A.d__law_parts ["_law_number_here", "_law_size"] (sp__law_parts K A) := by
  refine T.F__law_parts.ok sc__law_parts (fun vs H Q E h => ?_) (fun cdv A' outer s H vs Q E hRm h => ?_)
  · obtain ⟨nu, sz, rfl, _⟩ := h
    rfl
  · obtain ⟨nu, sz, rfl, hn, h0, h1, kq⟩ := h
    have hUn := hu_of hRm
    have s0 : Hs [] H [] H := Hs.start H
    refine ⟨_, (pss_cons (ps_set (i := 2) sc__law_parts.nd rfl (.inl rfl) (pe_op op_fdivW (pv 0) (pv 1))) (pss_cons (ps_if (pt_cmpR op_lt (pe_op op_mul (pv 2) (pv 1)) (pv 0) (nomark _)) (pss_cons (ps_set (i := 2) sc__law_parts.nd rfl (.inl rfl) (pe_op op_add (pv 2) pe_int)) pss_nil) pss_nil) (pss_cons (ps_ret (pv 2)) pss_nil))), ?_⟩
    refine c_sig [some (V.int nu), some (V.int sz), none] rfl ?_
    obtain ⟨n1, en1⟩ : ∃ n : Int, n = (nu / sz) := ⟨_, rfl⟩
    refine s_set [some (V.int nu), some (V.int sz), some (V.int n1)] (vis (v1 (C := CDivW) (g := fun i j => .int (i / j)) (i := nu) (j := sz) (wide_div (b := 64) (by walk_at "side") (by walk_at "side") (by decide) (by decide)) (vv 0 rfl) (vv 1 rfl)) (congrArg V.int en1.symm)) rfl ?_
    obtain ⟨n3, en3⟩ : ∃ n : Int, n = (if (n1 * sz) < nu then n1 + 1 else n1) := ⟨_, rfl⟩
    refine s_ifset [some (V.int nu), some (V.int sz), some (V.int n3)] (.int n3) (vtest (v0 (g := fun i j => .bl (decide (i < j))) (v1 (C := CMul) (g := fun i j => .int (i * j)) (i := n1) (j := sz) (by walk_at "cmul2") (vv 2 rfl) (vv 1 rfl)) (vv 0 rfl))) (fun h2 => vis (v0 (g := fun i j => .int (i + j)) (vv 2 rfl) vc) (congrArg V.int (by rw [en3, if_pos h2]))) rfl (fun h2 => by rw [en3, if_neg h2]) ?_
    refine s_ret (vv 2 rfl) ?_
    exact fin kq (by (subst_vars; exact congrArg V.int (parts_eq (by assumption))))
def sp__law_refused (K : PySem.W.Frag) (A : Ads) : Sp := fun vs H Q _ => ∃ (g b z : Int), vs = [V.int g, V.int b, V.int z] ∧ (¬ (⟨g, b, z⟩ : Lay).ok) ∧ ∀  (H' : Hp), Hs [] H [] H' → Q (V.bl true) H'
def tsIs (K : PySem.W.Frag) (A : Ads) (a : Addr) (c : V) : TE := tCB (rIsE K A.c_InvalidFormat a) (tCons (tVar 3) (tCons (tC c) tNil))
def tsR (K : PySem.W.Frag) (A : Ads) (a : Addr) : TS := tSeq (tIfS (tOr (tNot (tB (tsIs K A a (.ty "ValueError")))) (tOr (tB (tsIs K A a (.ref A.c_OutOfRange))) (tB (tsIs K A a (.ref A.c_InvalidImage))))) (tSeq (tRet (tC (.bl false))) tNext) tNext) (tSeq (tRet (tsIs K A a (.ref A.c_InvalidFormat))) tNext)
theorem ok__law_refused (T : Txt K mg A) : FnOk P w K mg base CX0 4 A.a__law_refused A.d__law_refused ["_law_segments", "_law_blocks", "_law_size"] (sp__law_refused K A) := by
  have G_X : FnOk P w K mg base (L2.CX P w) 2 A.a_Layout___init__ A.d_Layout___init__ ["self", "segments", "segment_blocks", "block_size"] (sp_Layout___init___X K A) := ok_Layout___init___X T
  refine T.F__law_refused.ok sc__law_refused (fun vs H Q E h => ?_) (fun cdv A' outer s H vs Q E hRm h => ?_)
  · obtain ⟨g, b, z, rfl, _⟩ := h
    rfl
  · obtain ⟨g, b, z, rfl, hbad, kq⟩ := h
    refine ⟨_, (pss_cons (ps_try_as (i := 3) (ts := fun a cls d D σ H => (cls = .ref A.c_InvalidFormat ∧ d = none) ∧ tsR K A a D σ H) rfl rfl sc__law_refused.nd rfl rfl ⟨rfl, by decide, .inl T.g_SegmentError⟩ takes0 (fun W pn xe tk _ => (pss_cons (ps_expr (pe_makeS T.mk_Layout G_X (hRm.mono (by decide)) (by rfl) T.g_Layout T.b_Layout___init__ (fun σ => passAt tk σ) (pa_cons (pv 0) (pa_cons (pv 1) (pa_cons (pv 2) pa_nil))))) pss_nil)) (fun a oe cls d pn hz hf => pss_when (fun hcd => by
      obtain ⟨rfl, rfl⟩ := hcd
      exact (pss_cons (ps_if (pw_or (pt_not (pt_val (pe_callB (call_isE T.ec_IF hz hf) (by rfl) T.z_isinstance (by decide +kernel) (pa_cons (pv 3) (pa_cons (pe_bltn (v := .ty "ValueError") (u := .type "ValueError") (by rfl) T.z_ValueError (by decide +kernel) rfl) pa_nil))) (fun _ => rfl))) (pw_or (pt_val (pe_callB (call_isE T.ec_IF hz hf) (by rfl) T.z_isinstance (by decide +kernel) (pa_cons (pv 3) (pa_cons (pe_glob (v := .ref A.c_OutOfRange) (by rfl) T.g_OutOfRange (by exact rfl)) pa_nil))) (fun _ => rfl)) (pw_or1 (pt_val (pe_callB (call_isE T.ec_IF hz hf) (by rfl) T.z_isinstance (by decide +kernel) (pa_cons (pv 3) (pa_cons (pe_glob (v := .ref A.c_InvalidImage) (by rfl) T.g_InvalidImage (by exact rfl)) pa_nil))) (fun _ => rfl))))).pt (pss_cons (ps_ret pe_bl) pss_nil) pss_nil) (pss_cons (ps_ret (pe_callB (call_isE T.ec_IF hz hf) (by rfl) T.z_isinstance (by decide +kernel) (pa_cons (pv 3) (pa_cons (pe_glob (v := .ref A.c_InvalidFormat) (by rfl) T.g_InvalidFormat (by exact rfl)) pa_nil)))) pss_nil))))) (pss_cons (ps_ret pe_bl) pss_nil)), ?_⟩
    show tDrop (tMakeS A.c_Layout (sp_Layout___init___X K A) _ (tCons (tVar 0) (tCons (tVar 1) (tCons (tVar 2) tNil)))) _ _ _
    refine c_mkS ?_
    refine c_cons ?_
    refine (vv 0 rfl) _ ?_
    refine c_cons ?_
    refine (vv 1 rfl) _ ?_
    refine c_cons ?_
    refine (vv 2 rfl) _ ?_
    refine c_nil ?_
    intro p d np nd ne
    refine ⟨p, d, g, b, z, rfl, upd_same, hbad, fun H1 r1 => ?_⟩
    have s2 := ((Hs.start H).new nd (.own p)).new (upd_none np ne) (.ins A.c_Layout d [])
    have s3 : Hs [] H [] H1 := s2.call (R := []) r1 [] (by simp) (by decide) rfl (fun _ h => (List.not_mem_nil h).elim)
    refine ⟨true, T.em_S, fun _ a ha => ⟨⟨rfl, rfl⟩, ?_⟩, fun q => nomatch q⟩
    refine c_ifS ?_
    refine c_or ?_
    refine c_not ?_
    refine c_tB ?_
    refine c_cb ?_
    refine c_cons ?_
    refine (vv 3 rfl) _ ?_
    refine c_cons ?_
    refine vc _ ?_
    refine c_nil ?_
    refine ⟨_, _, true, rfl, fun _ h => h, T.ko_V, ?_⟩
    refine ⟨true, rfl, ?_⟩
    refine iteF ?_
    refine c_or ?_
    refine c_tB ?_
    refine c_cb ?_
    refine c_cons ?_
    refine (vv 3 rfl) _ ?_
    refine c_cons ?_
    refine vc _ ?_
    refine c_nil ?_
    refine ⟨_, _, false, rfl, fun _ h => h, T.ko_O, ?_⟩
    refine ⟨false, rfl, ?_⟩
    refine iteF ?_
    refine c_tB ?_
    refine c_cb ?_
    refine c_cons ?_
    refine (vv 3 rfl) _ ?_
    refine c_cons ?_
    refine vc _ ?_
    refine c_nil ?_
    refine ⟨_, _, false, rfl, fun _ h => h, T.ko_I, ?_⟩
    refine ⟨false, rfl, ?_⟩
    refine iteF ?_
    refine s_nxs ?_
    refine c_ret ?_
    refine c_cb ?_
    refine c_cons ?_
    refine (vv 3 rfl) _ ?_
    refine c_cons ?_
    refine vc _ ?_
    refine c_nil ?_
    exact ⟨_, _, true, rfl, fun _ h => h, T.ko_F, kq _ s3⟩
def sp__law_places (K : PySem.W.Frag) (A : Ads) : Sp := fun vs H Q _ => ∃ (x dx a : Addr) (l : Lay) (bx : Int), vs = [V.ref x, V.ref a] ∧ (H x = some (.ins A.c_Layout dx [("segments", V.int l.g), ("segment_blocks", V.int l.b), ("block_size", V.int l.z), ("payload", V.int l.pay), ("limit", V.int l.lim), ("last_id", V.int l.last), ("fan", V.int (l.z / 2)), ("region_blocks", V.int l.reg), ("device_blocks", V.int l.dev)])) ∧ (H a = some (.lst [V.int bx])) ∧ (l.ok) ∧ ∀ (bq : Int) (H' : Hp), Hs [a] H [(a, .lst ([V.int bq]))] H' → Q (V.bl true) H'
theorem ok__law_places (T : Txt K mg A) : FnOk P w K mg base CX0 3 A.a__law_places A.d__law_places ["_law_layout_here", "_law_box"] (sp__law_places K A) := by
  have G__law_take : FnOk P w K mg base CX0 1 A.a__law_take A.d__law_take ["_law_box", "_law_size"] (sp__law_take K A) := ok__law_take T
  have G_address_at : FnOk P w K mg base CX0 1 A.a_address_at A.d_address_at ["layout", "segment", "place"] (sp_address_at K A) := ok_address_at T
  have G__law_same : FnOk P w K mg base CX0 2 A.a__law_same A.d__law_same ["_law_actual", "_law_due"] (sp__law_same K A) := ok__law_same T
  have G_segment_of : FnOk P w K mg base CX0 1 A.a_segment_of A.d_segment_of ["layout", "address"] (sp_segment_of K A) := ok_segment_of T
  have G_place_of : FnOk P w K mg base CX0 1 A.a_place_of A.d_place_of ["layout", "address"] (sp_place_of K A) := ok_place_of T
  have G_region_start : FnOk P w K mg base CX0 1 A.a_region_start A.d_region_start ["layout", "region"] (sp_region_start K A) := ok_region_start T
  refine T.F__law_places.ok sc__law_places (fun vs H Q E h => ?_) (fun cdv A' outer s H vs Q E hRm h => ?_)
  · obtain ⟨x, dx, a, l, bx, rfl, _⟩ := h
    rfl
  · obtain ⟨x, dx, a, l, bx, rfl, hL, hc_a, hok, kq⟩ := h
    have hUn := hu_of hRm
    have s0 : Hs [a] H [(a, .lst ([V.int bx]))] H := Hs.start1 hc_a
    have hnf_x : x ∉ [a] := nin1 hL hc_a (fun z => nomatch z)
    refine ⟨_, (pss_cons (ps_set (i := 2) sc__law_places.nd rfl (.inl rfl) (pe_fld (pv 0) rfl)) (pss_cons (ps_set (i := 3) sc__law_places.nd rfl (.inl rfl) (pe_call G__law_take (hRm.mono (by decide)) (by rfl) T.g__law_take T.F__law_take.kp T.b__law_take .nil pass0 (pa_cons (pv 1) (pa_cons (pe_fld (pv 0) rfl) pa_nil)))) (pss_cons (ps_set (i := 4) sc__law_places.nd rfl (.inl rfl) (pe_call G__law_take (hRm.mono (by decide)) (by rfl) T.g__law_take T.F__law_take.kp T.b__law_take .nil pass0 (pa_cons (pv 1) (pa_cons (pv 2) pa_nil)))) (pss_cons (ps_set (i := 5) sc__law_places.nd rfl (.inl rfl) (pe_op op_mul pe_int (pe_fld (pv 0) rfl))) (pss_cons (ps_set (i := 6) sc__law_places.nd rfl (.inl rfl) (pe_call G_address_at (hRm.mono (by decide)) (by rfl) T.g_address_at T.F_address_at.kp T.b_address_at .nil pass0 (pa_cons (pv 0) (pa_cons (pv 3) (pa_cons (pv 4) pa_nil))))) (pss_cons (ps_if (pt_not (pt_val (pe_call G__law_same (hRm.mono (by decide)) (by rfl) T.g__law_same T.F__law_same.kp T.b__law_same .nil pass0 (pa_cons (pv 6) (pa_cons (pe_op op_add (pe_op op_add (pv 5) (pe_op op_mul (pv 3) (pv 2))) (pv 4)) pa_nil))) (fun _ => rfl))) (pss_cons (ps_ret pe_bl) pss_nil) pss_nil) (pss_cons (ps_if (pw_or (pt_not (pt_val (pe_call G__law_same (hRm.mono (by decide)) (by rfl) T.g__law_same T.F__law_same.kp T.b__law_same .nil pass0 (pa_cons (pe_call G_segment_of (hRm.mono (by decide)) (by rfl) T.g_segment_of T.F_segment_of.kp T.b_segment_of .nil pass0 (pa_cons (pv 0) (pa_cons (pv 6) pa_nil))) (pa_cons (pv 3) pa_nil))) (fun _ => rfl))) (pw_or1 (pt_not (pt_val (pe_call G__law_same (hRm.mono (by decide)) (by rfl) T.g__law_same T.F__law_same.kp T.b__law_same .nil pass0 (pa_cons (pe_call G_place_of (hRm.mono (by decide)) (by rfl) T.g_place_of T.F_place_of.kp T.b_place_of .nil pass0 (pa_cons (pv 0) (pa_cons (pv 6) pa_nil))) (pa_cons (pv 4) pa_nil))) (fun _ => rfl))))).pt (pss_cons (ps_ret pe_bl) pss_nil) pss_nil) (pss_cons (ps_set (i := 7) sc__law_places.nd rfl (.inl rfl) (pe_call G__law_take (hRm.mono (by decide)) (by rfl) T.g__law_take T.F__law_take.kp T.b__law_take .nil pass0 (pa_cons (pv 1) (pa_cons (pe_op op_add (pe_fld (pv 0) rfl) pe_int) pa_nil)))) (pss_cons (ps_set (i := 8) sc__law_places.nd rfl (.inl rfl) pe_non) (pss_cons (ps_set (i := 9) sc__law_places.nd rfl (.inl rfl) pe_non) (pss_cons (ps_if (pw_and (pt_cmpR op_ge (pv 7) (pv 5) (nomark _)) (pw_and1 (pt_cmpR op_lt (pv 7) (pe_op op_add (pv 5) (pe_op op_mul (pe_fld (pv 0) rfl) (pv 2))) (nomark _)))).pt (pss_cons (ps_set (i := 8) sc__law_places.nd rfl (.inl rfl) (pe_op op_fdiv (pe_op op_sub (pv 7) (pv 5)) (pv 2))) (pss_cons (ps_set (i := 9) sc__law_places.nd rfl (.inl rfl) (pe_op op_sub (pe_op op_sub (pv 7) (pv 5)) (pe_op op_mul (pv 8) (pv 2)))) pss_nil)) pss_nil) (pss_cons (ps_if (pw_or (pt_not (pt_val (pe_call G__law_same (hRm.mono (by decide)) (by rfl) T.g__law_same T.F__law_same.kp T.b__law_same .nil pass0 (pa_cons (pe_call G_segment_of (hRm.mono (by decide)) (by rfl) T.g_segment_of T.F_segment_of.kp T.b_segment_of .nil pass0 (pa_cons (pv 0) (pa_cons (pv 7) pa_nil))) (pa_cons (pv 8) pa_nil))) (fun _ => rfl))) (pw_or1 (pt_not (pt_val (pe_call G__law_same (hRm.mono (by decide)) (by rfl) T.g__law_same T.F__law_same.kp T.b__law_same .nil pass0 (pa_cons (pe_call G_place_of (hRm.mono (by decide)) (by rfl) T.g_place_of T.F_place_of.kp T.b_place_of .nil pass0 (pa_cons (pv 0) (pa_cons (pv 7) pa_nil))) (pa_cons (pv 9) pa_nil))) (fun _ => rfl))))).pt (pss_cons (ps_ret pe_bl) pss_nil) pss_nil) (pss_cons (ps_ret (pe_and (pe_call G__law_same (hRm.mono (by decide)) (by rfl) T.g__law_same T.F__law_same.kp T.b__law_same .nil pass0 (pa_cons (pe_call G_region_start (hRm.mono (by decide)) (by rfl) T.g_region_start T.F_region_start.kp T.b_region_start .nil pass0 (pa_cons (pv 0) (pa_cons pe_int pa_nil))) (pa_cons pe_int pa_nil))) (pe_one (pe_call G__law_same (hRm.mono (by decide)) (by rfl) T.g__law_same T.F__law_same.kp T.b__law_same .nil pass0 (pa_cons (pe_call G_region_start (hRm.mono (by decide)) (by rfl) T.g_region_start T.F_region_start.kp T.b_region_start .nil pass0 (pa_cons (pv 0) (pa_cons pe_int pa_nil))) (pa_cons (pe_fld (pv 0) rfl) pa_nil)))))) pss_nil))))))))))))), ?_⟩
    refine c_sig [some (V.ref x), some (V.ref a), none, none, none, none, none, none, none, none] rfl ?_
    obtain ⟨hl1, hl2, hl3, hl4⟩ := hok.bounds
    have hlg : 4 ≤ l.g ∧ l.g ≤ 16 := ⟨hok.1, hok.2.1⟩
    have hlb : 16 ≤ l.b ∧ l.b ≤ 32 := ⟨hok.2.2.1, hok.2.2.2.1⟩
    have hq4 : l.dev = 2 * l.reg + l.g * l.b := rfl
    have hgb := mul_bd (a := l.g) (b := l.b) (c := 16) (d := 32) (by omega) (by omega) (by omega) (by omega)
    obtain ⟨n1, en1⟩ : ∃ n : Int, n = (l.b) := ⟨_, rfl⟩
    refine s_set [some (V.ref x), some (V.ref a), some (V.int n1), none, none, none, none, none, none, none] (vis (vfld (vv 0 rfl) (s0.fr _ _ hL hnf_x) T.cl_Layout T.na_Layout_segment_blocks (by rfl)) (congrArg V.int en1.symm)) rfl ?_
    refine c_set ?_
    refine c_callx ?_
    refine c_cons ?_
    refine (vv 1 rfl) _ ?_
    refine c_cons ?_
    obtain ⟨n2, en2⟩ : ∃ n : Int, n = (l.g) := ⟨_, rfl⟩
    refine (vis (vfld (vv 0 rfl) (s0.fr _ _ hL hnf_x) T.cl_Layout T.na_Layout_segments (by rfl)) (congrArg V.int en2.symm)) _ ?_
    refine c_nil ?_
    refine ⟨a, bx, n2, rfl, (s0.mem 0 rfl), (by walk_at "side"), (by walk_at "side"), fun H3 r4 => ?_⟩
    have s5 : Hs [a] H [(a, .lst ([V.int (bx / n2)]))] _ := s0.call (R := []) r4 [] (by simp) (by decide) rfl (s0.sep [] [0] (by decide) rfl rfl)
    obtain ⟨n6, en6⟩ : ∃ n : Int, n = (bx % n2) := ⟨_, rfl⟩
    have en60 : 0 ≤ n6 := by rw [en6]; exact Int.emod_nonneg _ (by walk_at "side")
    have en61 : n6 < n2 := by rw [en6]; exact Int.emod_lt_of_pos _ (by walk_at "side")
    refine k_setv (.int n6) (congrArg V.int en6.symm) ?_
    refine k_set [some (V.ref x), some (V.ref a), some (V.int n1), some (V.int n6), none, none, none, none, none, none] rfl ?_
    refine c_set ?_
    refine c_callx ?_
    refine c_cons ?_
    refine (vv 1 rfl) _ ?_
    refine c_cons ?_
    refine (vv 2 rfl) _ ?_
    refine c_nil ?_
    refine ⟨a, (bx / n2), n1, rfl, (s5.mem 0 rfl), (by walk_at "side"), (by walk_at "side"), fun H7 r8 => ?_⟩
    have s9 : Hs [a] H [(a, .lst ([V.int ((bx / n2) / n1)]))] _ := s5.call (R := []) r8 [] (by simp) (by decide) rfl (s5.sep [] [0] (by decide) rfl rfl)
    obtain ⟨n10, en10⟩ : ∃ n : Int, n = ((bx / n2) % n1) := ⟨_, rfl⟩
    have en100 : 0 ≤ n10 := by rw [en10]; exact Int.emod_nonneg _ (by walk_at "side")
    have en101 : n10 < n1 := by rw [en10]; exact Int.emod_lt_of_pos _ (by walk_at "side")
    refine k_setv (.int n10) (congrArg V.int en10.symm) ?_
    refine k_set [some (V.ref x), some (V.ref a), some (V.int n1), some (V.int n6), some (V.int n10), none, none, none, none, none] rfl ?_
    obtain ⟨n11, en11⟩ : ∃ n : Int, n = (2 * l.reg) := ⟨_, rfl⟩
    refine s_set [some (V.ref x), some (V.ref a), some (V.int n1), some (V.int n6), some (V.int n10), some (V.int n11), none, none, none, none] (vis (v1 (C := CMul) (g := fun i j => .int (i * j)) (i := 2) (j := l.reg) (.inl (by walk_at "cmul")) vc (vfld (vv 0 rfl) (s9.fr _ _ hL hnf_x) T.cl_Layout T.na_Layout_region_blocks (by rfl))) (congrArg V.int en11.symm)) rfl ?_
    obtain ⟨n12, en12⟩ : ∃ n : Int, n = (2 * l.reg + n6 * l.b + n10) := ⟨_, rfl⟩
    refine s_set [some (V.ref x), some (V.ref a), some (V.int n1), some (V.int n6), some (V.int n10), some (V.int n11), some (V.int n12), none, none, none] (vis (vcall (va (vv 0 rfl) (va (vv 3 rfl) (va (vv 4 rfl) va0))) (fun _ kC => ⟨x, dx, l, n6, n10, rfl, (s9.fr _ _ hL hnf_x), (by walk_at "side"), (by walk_at "side"), (by walk_at "side"), (by walk_at "side"), (by walk_at "side"), kC⟩)) (congrArg V.int en12.symm)) rfl ?_
    have hadr : 2 * l.reg ≤ n12 ∧ n12 < l.dev := by rw [en12]; exact at_in (by omega) (by omega) (by omega) (by omega) (by omega) hq4
    have hsa : segOf l n12 = n6 := by rw [en12]; exact seg_at (by omega) (by omega)
    have hpa : placeOf l n12 = n10 := by rw [en12]; exact place_at (by omega) (by omega)
    refine c_ifS ?_
    refine c_not ?_
    refine c_tB ?_
    refine c_callx ?_
    refine c_cons ?_
    refine (vv 6 rfl) _ ?_
    refine c_cons ?_
    obtain ⟨n15, en15⟩ : ∃ n : Int, n = ((n11 + (n6 * n1)) + n10) := ⟨_, rfl⟩
    refine (vis (v0 (g := fun i j => .int (i + j)) (v0 (g := fun i j => .int (i + j)) (vv 5 rfl) (v1 (C := CMul) (g := fun i j => .int (i * j)) (i := n6) (j := n1) (by walk_at "cmul2") (vv 3 rfl) (vv 2 rfl))) (vv 4 rfl)) (congrArg V.int en15.symm)) _ ?_
    refine c_nil ?_
    refine .inr ⟨n12, n15, rfl, fun H16 r17 => ?_⟩
    have s18 : Hs [a] H [(a, .lst ([V.int ((bx / n2) / n1)]))] _ := s9.call0 r17
    refine ⟨_, rfl, ?_⟩
    refine c_iten (p := n12 = n15) (fun h14 => ?_) (fun h14 => ?_)
    · -- no
      refine s_ret vc ?_
      exfalso; first | contradiction | (subst_vars; first | contradiction | omega) | (simp_all; done)
    · -- yes
      refine s_nxs ?_
      refine c_ifS ?_
      refine c_or ?_
      refine c_not ?_
      refine c_tB ?_
      refine c_callx ?_
      refine c_cons ?_
      refine c_callx ?_
      refine c_cons ?_
      refine (vv 0 rfl) _ ?_
      refine c_cons ?_
      refine (vv 6 rfl) _ ?_
      refine c_nil ?_
      refine .inl ⟨x, dx, l, n12, rfl, (s18.fr _ _ hL hnf_x), (by walk_at "side"), (by first | assumption | exact at_in (by omega) (by omega) (by omega) (by omega)), fun H21 r22 => ?_⟩
      have s23 : Hs [a] H [(a, .lst ([V.int ((bx / n2) / n1)]))] _ := s18.call0 r22
      refine c_cons ?_
      refine (vv 3 rfl) _ ?_
      refine c_nil ?_
      refine .inr ⟨(segOf l n12), n6, rfl, fun H24 r25 => ?_⟩
      have s26 : Hs [a] H [(a, .lst ([V.int ((bx / n2) / n1)]))] _ := s23.call0 r25
      refine ⟨_, rfl, ?_⟩
      refine c_iten (p := (segOf l n12) = n6) (fun h20 => ?_) (fun h20 => ?_)
      · -- no
        refine iteT ?_
        refine s_ret vc ?_
        exfalso; first | contradiction | (subst_vars; first | contradiction | omega) | (simp_all; done)
      · -- yes
        refine c_not ?_
        refine c_tB ?_
        refine c_callx ?_
        refine c_cons ?_
        refine c_callx ?_
        refine c_cons ?_
        refine (vv 0 rfl) _ ?_
        refine c_cons ?_
        refine (vv 6 rfl) _ ?_
        refine c_nil ?_
        refine .inl ⟨x, dx, l, n12, rfl, (s26.fr _ _ hL hnf_x), (by walk_at "side"), (by first | assumption | exact at_in (by omega) (by omega) (by omega) (by omega)), fun H28 r29 => ?_⟩
        have s30 : Hs [a] H [(a, .lst ([V.int ((bx / n2) / n1)]))] _ := s26.call0 r29
        refine c_cons ?_
        refine (vv 4 rfl) _ ?_
        refine c_nil ?_
        refine .inr ⟨(placeOf l n12), n10, rfl, fun H31 r32 => ?_⟩
        have s33 : Hs [a] H [(a, .lst ([V.int ((bx / n2) / n1)]))] _ := s30.call0 r32
        refine ⟨_, rfl, ?_⟩
        refine c_iten (p := (placeOf l n12) = n10) (fun h27 => ?_) (fun h27 => ?_)
        · -- no
          refine s_ret vc ?_
          exfalso; first | contradiction | (subst_vars; first | contradiction | omega) | (simp_all; done)
        · -- yes
          refine s_nxs ?_
          refine c_set ?_
          refine c_callx ?_
          refine c_cons ?_
          refine (vv 1 rfl) _ ?_
          refine c_cons ?_
          obtain ⟨n34, en34⟩ : ∃ n : Int, n = (l.dev + 51) := ⟨_, rfl⟩
          refine (vis (v0 (g := fun i j => .int (i + j)) (vfld (vv 0 rfl) (s33.fr _ _ hL hnf_x) T.cl_Layout T.na_Layout_device_blocks (by rfl)) vc) (congrArg V.int en34.symm)) _ ?_
          refine c_nil ?_
          refine ⟨a, ((bx / n2) / n1), n34, rfl, (s33.mem 0 rfl), (by walk_at "side"), (by walk_at "side"), fun H35 r36 => ?_⟩
          have s37 : Hs [a] H [(a, .lst ([V.int (((bx / n2) / n1) / n34)]))] _ := s33.call (R := []) r36 [] (by simp) (by decide) rfl (s33.sep [] [0] (by decide) rfl rfl)
          obtain ⟨n38, en38⟩ : ∃ n : Int, n = (((bx / n2) / n1) % n34) := ⟨_, rfl⟩
          have en380 : 0 ≤ n38 := by rw [en38]; exact Int.emod_nonneg _ (by walk_at "side")
          have en381 : n38 < n34 := by rw [en38]; exact Int.emod_lt_of_pos _ (by walk_at "side")
          refine k_setv (.int n38) (congrArg V.int en38.symm) ?_
          refine k_set [some (V.ref x), some (V.ref a), some (V.int n1), some (V.int n6), some (V.int n10), some (V.int n11), some (V.int n12), some (V.int n38), none, none] rfl ?_
          refine s_set [some (V.ref x), some (V.ref a), some (V.int n1), some (V.int n6), some (V.int n10), some (V.int n11), some (V.int n12), some (V.int n38), some (V.non), none] vc rfl ?_
          refine s_set [some (V.ref x), some (V.ref a), some (V.int n1), some (V.int n6), some (V.int n10), some (V.int n11), some (V.int n12), some (V.int n38), some (V.non), some (V.non)] vc rfl ?_
          by_cases hIn : 2 * l.reg ≤ n38 ∧ n38 < l.dev
          · -- case True
            refine s_if (p := (n38 ≥ n11) ∧ (n38 < (n11 + (l.g * n1)))) (aand (vtest (v0 (g := fun i j => .bl (decide (j ≤ i))) (vv 7 rfl) (vv 5 rfl))) (fun hc => (vtest (v0 (g := fun i j => .bl (decide (i < j))) (vv 7 rfl) (v0 (g := fun i j => .int (i + j)) (vv 5 rfl) (v1 (C := CMul) (g := fun i j => .int (i * j)) (i := l.g) (j := n1) (by walk_at "cmul2") (vfld (vv 0 rfl) (s37.fr _ _ hL hnf_x) T.cl_Layout T.na_Layout_segments (by rfl)) (vv 2 rfl))))))) (fun h39 => ?_) (fun h39 => ?_)
            · -- then line 143
              obtain ⟨n40, en40⟩ : ∃ n : Int, n = ((n38 - n11) / n1) := ⟨_, rfl⟩
              refine s_set [some (V.ref x), some (V.ref a), some (V.int n1), some (V.int n6), some (V.int n10), some (V.int n11), some (V.int n12), some (V.int n38), some (V.int n40), some (V.non)] (vis (v1 (C := CDiv) (g := fun i j => .int (i / j)) (i := n38 - n11) (j := n1) ⟨by walk_at "side", by walk_at "side"⟩ (v0 (g := fun i j => .int (i - j)) (vv 7 rfl) (vv 5 rfl)) (vv 2 rfl)) (congrArg V.int en40.symm)) rfl ?_
              obtain ⟨n41, en41⟩ : ∃ n : Int, n = ((n38 - n11) - (n40 * n1)) := ⟨_, rfl⟩
              refine s_set [some (V.ref x), some (V.ref a), some (V.int n1), some (V.int n6), some (V.int n10), some (V.int n11), some (V.int n12), some (V.int n38), some (V.int n40), some (V.int n41)] (vis (v0 (g := fun i j => .int (i - j)) (v0 (g := fun i j => .int (i - j)) (vv 7 rfl) (vv 5 rfl)) (v1 (C := CMul) (g := fun i j => .int (i * j)) (i := n40) (j := n1) (by walk_at "cmul2") (vv 8 rfl) (vv 2 rfl))) (congrArg V.int en41.symm)) rfl ?_
              refine s_nxs ?_
              have hsd : segOf l n38 = (n38 - 2 * l.reg) / l.b := rfl
              have hpd : placeOf l n38 = n38 - 2 * l.reg - (n38 - 2 * l.reg) / l.b * l.b := place_due _ _
              refine c_ifS ?_
              refine c_or ?_
              refine c_not ?_
              refine c_tB ?_
              refine c_callx ?_
              refine c_cons ?_
              refine c_callx ?_
              refine c_cons ?_
              refine (vv 0 rfl) _ ?_
              refine c_cons ?_
              refine (vv 7 rfl) _ ?_
              refine c_nil ?_
              refine .inl ⟨x, dx, l, n38, rfl, (s37.fr _ _ hL hnf_x), (by walk_at "side"), (by first | assumption | exact at_in (by omega) (by omega) (by omega) (by omega)), fun H44 r45 => ?_⟩
              have s46 : Hs [a] H [(a, .lst ([V.int (((bx / n2) / n1) / n34)]))] _ := s37.call0 r45
              refine c_cons ?_
              refine (vv 8 rfl) _ ?_
              refine c_nil ?_
              refine .inr ⟨(segOf l n38), n40, rfl, fun H47 r48 => ?_⟩
              have s49 : Hs [a] H [(a, .lst ([V.int (((bx / n2) / n1) / n34)]))] _ := s46.call0 r48
              refine ⟨_, rfl, ?_⟩
              refine c_iten (p := (segOf l n38) = n40) (fun h43 => ?_) (fun h43 => ?_)
              · -- no
                refine iteT ?_
                refine s_ret vc ?_
                exfalso; first | contradiction | (subst_vars; first | contradiction | omega) | (simp_all; done)
              · -- yes
                refine c_not ?_
                refine c_tB ?_
                refine c_callx ?_
                refine c_cons ?_
                refine c_callx ?_
                refine c_cons ?_
                refine (vv 0 rfl) _ ?_
                refine c_cons ?_
                refine (vv 7 rfl) _ ?_
                refine c_nil ?_
                refine .inl ⟨x, dx, l, n38, rfl, (s49.fr _ _ hL hnf_x), (by walk_at "side"), (by first | assumption | exact at_in (by omega) (by omega) (by omega) (by omega)), fun H51 r52 => ?_⟩
                have s53 : Hs [a] H [(a, .lst ([V.int (((bx / n2) / n1) / n34)]))] _ := s49.call0 r52
                refine c_cons ?_
                refine (vv 9 rfl) _ ?_
                refine c_nil ?_
                refine .inr ⟨(placeOf l n38), n41, rfl, fun H54 r55 => ?_⟩
                have s56 : Hs [a] H [(a, .lst ([V.int (((bx / n2) / n1) / n34)]))] _ := s53.call0 r55
                refine ⟨_, rfl, ?_⟩
                refine c_iten (p := (placeOf l n38) = n41) (fun h50 => ?_) (fun h50 => ?_)
                · -- no
                  refine s_ret vc ?_
                  exfalso; first | contradiction | (subst_vars; first | contradiction | omega) | (simp_all; done)
                · -- yes
                  refine s_nxs ?_
                  refine c_ret ?_
                  refine c_andW (p := (0 * l.reg) = 0) (q := (1 * l.reg) = l.reg) s56 (fun Q' kQ => ?_) (fun H58 s59 h57 Q' kQ => ?_) (fun H60 s61 => ?_)
                  · -- the first part
                    refine c_callx ?_
                    refine c_cons ?_
                    obtain ⟨n62, en62⟩ : ∃ n : Int, n = (0 * l.reg) := ⟨_, rfl⟩
                    refine (vis (vcall (va (vv 0 rfl) (va vc va0)) (fun _ kC => ⟨x, dx, l, 0, rfl, (s56.fr _ _ hL hnf_x), (by walk_at "side"), (by walk_at "side"), (by walk_at "side"), kC⟩)) (congrArg V.int en62.symm)) _ ?_
                    refine c_cons ?_
                    refine vc _ ?_
                    refine c_nil ?_
                    refine .inr ⟨n62, 0, rfl, fun H63 r64 => ?_⟩
                    have s65 : Hs [a] H [(a, .lst ([V.int (((bx / n2) / n1) / n34)]))] _ := s56.call0 r64
                    subst en62
                    exact kQ _ (s65.pick [0] (by decide) rfl)
                  · -- the second part
                    refine c_callx ?_
                    refine c_cons ?_
                    obtain ⟨n66, en66⟩ : ∃ n : Int, n = (1 * l.reg) := ⟨_, rfl⟩
                    refine (vis (vcall (va (vv 0 rfl) (va vc va0)) (fun _ kC => ⟨x, dx, l, 1, rfl, (s59.fr _ _ hL hnf_x), (by walk_at "side"), (by walk_at "side"), (by walk_at "side"), kC⟩)) (congrArg V.int en66.symm)) _ ?_
                    refine c_cons ?_
                    obtain ⟨n67, en67⟩ : ∃ n : Int, n = (l.reg) := ⟨_, rfl⟩
                    refine (vis (vfld (vv 0 rfl) (s59.fr _ _ hL hnf_x) T.cl_Layout T.na_Layout_region_blocks (by rfl)) (congrArg V.int en67.symm)) _ ?_
                    refine c_nil ?_
                    refine .inr ⟨n66, n67, rfl, fun H68 r69 => ?_⟩
                    have s70 : Hs [a] H [(a, .lst ([V.int (((bx / n2) / n1) / n34)]))] _ := s59.call0 r69
                    subst en66 en67
                    exact kQ _ (s70.pick [0] (by decide) rfl)
                  · -- on
                    have s71 : Hs [a] H [(a, .lst ([V.int (((bx / n2) / n1) / n34)]))] _ := (s61.pick [0] (by decide) (by walk_at "finL"))
                    exact fin (kq (((bx / n2) / n1) / n34) _ s71 ) (by first | rfl | (simp; done))
            · -- else line 143
              exfalso; subst_vars; omega
          · -- case False
            refine s_if (p := (n38 ≥ n11) ∧ (n38 < (n11 + (l.g * n1)))) (aand (vtest (v0 (g := fun i j => .bl (decide (j ≤ i))) (vv 7 rfl) (vv 5 rfl))) (fun hc => (vtest (v0 (g := fun i j => .bl (decide (i < j))) (vv 7 rfl) (v0 (g := fun i j => .int (i + j)) (vv 5 rfl) (v1 (C := CMul) (g := fun i j => .int (i * j)) (i := l.g) (j := n1) (by walk_at "cmul2") (vfld (vv 0 rfl) (s37.fr _ _ hL hnf_x) T.cl_Layout T.na_Layout_segments (by rfl)) (vv 2 rfl))))))) (fun h72 => ?_) (fun h72 => ?_)
            · -- then line 143
              exfalso; subst_vars; omega
            · -- else line 143
              refine s_nxs ?_
              have hsd : segOf l n38 = (n38 - 2 * l.reg) / l.b := rfl
              have hpd : placeOf l n38 = n38 - 2 * l.reg - (n38 - 2 * l.reg) / l.b * l.b := place_due _ _
              refine c_ifS ?_
              refine c_or ?_
              refine c_not ?_
              refine c_tB ?_
              refine c_callx ?_
              refine c_cons ?_
              refine c_callx ?_
              refine c_cons ?_
              refine (vv 0 rfl) _ ?_
              refine c_cons ?_
              refine (vv 7 rfl) _ ?_
              refine c_nil ?_
              refine .inr ⟨x, dx, l, n38, rfl, (s37.fr _ _ hL hnf_x), (by walk_at "side"), (by assumption), fun H75 r76 => ?_⟩
              have s77 : Hs [a] H [(a, .lst ([V.int (((bx / n2) / n1) / n34)]))] _ := s37.call0 r76
              refine c_cons ?_
              refine (vv 8 rfl) _ ?_
              refine c_nil ?_
              refine .inl ⟨rfl, fun H78 r79 => ?_⟩
              have s80 : Hs [a] H [(a, .lst ([V.int (((bx / n2) / n1) / n34)]))] _ := s77.call0 r79
              refine ⟨_, rfl, ?_⟩
              refine c_iteBn (fun h74 => ?_) (fun h74 => ?_)
              · -- no
                exfalso; walk_at "dead"
              · -- yes
                refine c_not ?_
                refine c_tB ?_
                refine c_callx ?_
                refine c_cons ?_
                refine c_callx ?_
                refine c_cons ?_
                refine (vv 0 rfl) _ ?_
                refine c_cons ?_
                refine (vv 7 rfl) _ ?_
                refine c_nil ?_
                refine .inr ⟨x, dx, l, n38, rfl, (s80.fr _ _ hL hnf_x), (by walk_at "side"), (by assumption), fun H82 r83 => ?_⟩
                have s84 : Hs [a] H [(a, .lst ([V.int (((bx / n2) / n1) / n34)]))] _ := s80.call0 r83
                refine c_cons ?_
                refine (vv 9 rfl) _ ?_
                refine c_nil ?_
                refine .inl ⟨rfl, fun H85 r86 => ?_⟩
                have s87 : Hs [a] H [(a, .lst ([V.int (((bx / n2) / n1) / n34)]))] _ := s84.call0 r86
                refine ⟨_, rfl, ?_⟩
                refine c_iteBn (fun h81 => ?_) (fun h81 => ?_)
                · -- no
                  exfalso; walk_at "dead"
                · -- yes
                  refine s_nxs ?_
                  refine c_ret ?_
                  refine c_andW (p := (0 * l.reg) = 0) (q := (1 * l.reg) = l.reg) s87 (fun Q' kQ => ?_) (fun H89 s90 h88 Q' kQ => ?_) (fun H91 s92 => ?_)
                  · -- the first part
                    refine c_callx ?_
                    refine c_cons ?_
                    obtain ⟨n93, en93⟩ : ∃ n : Int, n = (0 * l.reg) := ⟨_, rfl⟩
                    refine (vis (vcall (va (vv 0 rfl) (va vc va0)) (fun _ kC => ⟨x, dx, l, 0, rfl, (s87.fr _ _ hL hnf_x), (by walk_at "side"), (by walk_at "side"), (by walk_at "side"), kC⟩)) (congrArg V.int en93.symm)) _ ?_
                    refine c_cons ?_
                    refine vc _ ?_
                    refine c_nil ?_
                    refine .inr ⟨n93, 0, rfl, fun H94 r95 => ?_⟩
                    have s96 : Hs [a] H [(a, .lst ([V.int (((bx / n2) / n1) / n34)]))] _ := s87.call0 r95
                    subst en93
                    exact kQ _ (s96.pick [0] (by decide) rfl)
                  · -- the second part
                    refine c_callx ?_
                    refine c_cons ?_
                    obtain ⟨n97, en97⟩ : ∃ n : Int, n = (1 * l.reg) := ⟨_, rfl⟩
                    refine (vis (vcall (va (vv 0 rfl) (va vc va0)) (fun _ kC => ⟨x, dx, l, 1, rfl, (s90.fr _ _ hL hnf_x), (by walk_at "side"), (by walk_at "side"), (by walk_at "side"), kC⟩)) (congrArg V.int en97.symm)) _ ?_
                    refine c_cons ?_
                    obtain ⟨n98, en98⟩ : ∃ n : Int, n = (l.reg) := ⟨_, rfl⟩
                    refine (vis (vfld (vv 0 rfl) (s90.fr _ _ hL hnf_x) T.cl_Layout T.na_Layout_region_blocks (by rfl)) (congrArg V.int en98.symm)) _ ?_
                    refine c_nil ?_
                    refine .inr ⟨n97, n98, rfl, fun H99 r100 => ?_⟩
                    have s101 : Hs [a] H [(a, .lst ([V.int (((bx / n2) / n1) / n34)]))] _ := s90.call0 r100
                    subst en97 en98
                    exact kQ _ (s101.pick [0] (by decide) rfl)
                  · -- on
                    have s102 : Hs [a] H [(a, .lst ([V.int (((bx / n2) / n1) / n34)]))] _ := (s92.pick [0] (by decide) (by walk_at "finL"))
                    exact fin (kq (((bx / n2) / n1) / n34) _ s102 ) (by first | rfl | (simp; done))
def sp__law_asked (K : PySem.W.Frag) (A : Ads) : Sp := fun vs H Q _ => ∃ (g b z : Int), vs = [V.int g, V.int b, V.int z] ∧ ∀  (H' : Hp), Hs [] H [] H' → Q (V.bl true) H'
theorem ok__law_asked (T : Txt K mg A) : FnOk P w K mg base CX0 5 A.a__law_asked A.d__law_asked ["_law_segments", "_law_blocks", "_law_size"] (sp__law_asked K A) := by
  have G__law_fits : FnOk P w K mg base CX0 1 A.a__law_fits A.d__law_fits ["_law_segments", "_law_blocks", "_law_size"] (sp__law_fits K A) := ok__law_fits T
  have G__law_refused : FnOk P w K mg base CX0 4 A.a__law_refused A.d__law_refused ["_law_segments", "_law_blocks", "_law_size"] (sp__law_refused K A) := ok__law_refused T
  have G__law_told : FnOk P w K mg base CX0 2 A.a__law_told A.d__law_told ["_law_layout_here", "_law_segments", "_law_blocks", "_law_size"] (sp__law_told K A) := ok__law_told T
  have G_Layout___init__ : FnOk P w K mg base CX0 2 A.a_Layout___init__ A.d_Layout___init__ ["self", "segments", "segment_blocks", "block_size"] (sp_Layout___init__ K A) := ok_Layout___init__ T
  refine T.F__law_asked.ok sc__law_asked (fun vs H Q E h => ?_) (fun cdv A' outer s H vs Q E hRm h => ?_)
  · obtain ⟨g, b, z, rfl, _⟩ := h
    rfl
  · obtain ⟨g, b, z, rfl, kq⟩ := h
    have hUn := hu_of hRm
    have s0 : Hs [] H [] H := Hs.start H
    refine ⟨_, (pss_cons (ps_if (pt_not (pt_val (pe_call G__law_fits (hRm.mono (by decide)) (by rfl) T.g__law_fits T.F__law_fits.kp T.b__law_fits .nil pass0 (pa_cons (pv 0) (pa_cons (pv 1) (pa_cons (pv 2) pa_nil)))) (fun _ => rfl))) (pss_cons (ps_ret (pe_call G__law_refused (hRm.mono (by decide)) (by rfl) T.g__law_refused T.F__law_refused.kp T.b__law_refused .nil pass0 (pa_cons (pv 0) (pa_cons (pv 1) (pa_cons (pv 2) pa_nil))))) pss_nil) pss_nil) (pss_cons (ps_ret (pe_call G__law_told (hRm.mono (by decide)) (by rfl) T.g__law_told T.F__law_told.kp T.b__law_told .nil pass0 (pa_cons (pe_make T.mk_Layout G_Layout___init__ (hRm.mono (by decide)) (by rfl) T.g_Layout T.b_Layout___init__ .nil pass0 (pa_cons (pv 0) (pa_cons (pv 1) (pa_cons (pv 2) pa_nil)))) (pa_cons (pv 0) (pa_cons (pv 1) (pa_cons (pv 2) pa_nil)))))) pss_nil)), ?_⟩
    refine c_sig [some (V.int g), some (V.int b), some (V.int z)] rfl ?_
    refine c_ifS ?_
    refine c_not ?_
    refine c_tB ?_
    refine c_callx ?_
    refine c_cons ?_
    refine (vv 0 rfl) _ ?_
    refine c_cons ?_
    refine (vv 1 rfl) _ ?_
    refine c_cons ?_
    refine (vv 2 rfl) _ ?_
    refine c_nil ?_
    refine ⟨g, b, z, rfl, fun H3 r4 => ?_⟩
    have s5 : Hs [] H [] _ := s0.call0 r4
    refine ⟨_, rfl, ?_⟩
    refine c_iten (p := (⟨g, b, z⟩ : Lay).ok) (fun h2 => ?_) (fun h2 => ?_)
    · -- no
      refine c_ret ?_
      refine c_callx ?_
      refine c_cons ?_
      refine (vv 0 rfl) _ ?_
      refine c_cons ?_
      refine (vv 1 rfl) _ ?_
      refine c_cons ?_
      refine (vv 2 rfl) _ ?_
      refine c_nil ?_
      refine ⟨g, b, z, rfl, (by assumption), fun H6 r7 => ?_⟩
      have s8 : Hs [] H [] _ := s5.call0 r7
      have s9 : Hs [] H [] _ := (s8.pick [] (by decide) (by walk_at "finL"))
      exact fin (kq  _ s9 ) (by rfl)
    · -- yes
      refine s_nxs ?_
      refine c_ret ?_
      refine c_callx ?_
      refine c_cons ?_
      refine c_make ?_
      refine c_cons ?_
      refine (vv 0 rfl) _ ?_
      refine c_cons ?_
      refine (vv 1 rfl) _ ?_
      refine c_cons ?_
      refine (vv 2 rfl) _ ?_
      refine c_nil ?_
      intro p10 d11 np10 nd11 nep10
      have s12 := (s5.new nd11 (.own p10)).new (upd_none np10 nep10) (.ins A.c_Layout d11 [])
      refine ⟨p10, d11, (⟨g, b, z⟩ : Lay), rfl, (s12.mem 0 rfl), (by assumption), fun H13 r14 => ?_⟩
      have s15 : Hs [] H [(p10, .ins A.c_Layout d11 [("segments", V.int ((⟨g, b, z⟩ : Lay).g)), ("segment_blocks", V.int ((⟨g, b, z⟩ : Lay).b)), ("block_size", V.int ((⟨g, b, z⟩ : Lay).z)), ("payload", V.int ((⟨g, b, z⟩ : Lay).pay)), ("limit", V.int ((⟨g, b, z⟩ : Lay).lim)), ("last_id", V.int ((⟨g, b, z⟩ : Lay).last)), ("fan", V.int ((⟨g, b, z⟩ : Lay).z / 2)), ("region_blocks", V.int ((⟨g, b, z⟩ : Lay).reg)), ("device_blocks", V.int ((⟨g, b, z⟩ : Lay).dev))]), (d11, .own p10)] _ := s12.call (R := [(d11, .own p10)]) r14 [1] (by simp) (by decide) rfl (s12.sep [1] [0] (by decide) rfl rfl)
      refine ⟨rfl, ?_⟩
      refine c_cons ?_
      refine (vv 0 rfl) _ ?_
      refine c_cons ?_
      refine (vv 1 rfl) _ ?_
      refine c_cons ?_
      refine (vv 2 rfl) _ ?_
      refine c_nil ?_
      refine ⟨p10, d11, (⟨g, b, z⟩ : Lay), rfl, (s15.mem 0 rfl), (by assumption), fun H16 r17 => ?_⟩
      have s18 : Hs [] H [(p10, .ins A.c_Layout d11 [("segments", V.int ((⟨g, b, z⟩ : Lay).g)), ("segment_blocks", V.int ((⟨g, b, z⟩ : Lay).b)), ("block_size", V.int ((⟨g, b, z⟩ : Lay).z)), ("payload", V.int ((⟨g, b, z⟩ : Lay).pay)), ("limit", V.int ((⟨g, b, z⟩ : Lay).lim)), ("last_id", V.int ((⟨g, b, z⟩ : Lay).last)), ("fan", V.int ((⟨g, b, z⟩ : Lay).z / 2)), ("region_blocks", V.int ((⟨g, b, z⟩ : Lay).reg)), ("device_blocks", V.int ((⟨g, b, z⟩ : Lay).dev))]), (d11, .own p10)] _ := s15.call0 r17
      have s19 : Hs [] H [] _ := (s18.pick [] (by decide) (by walk_at "finL"))
      exact fin (kq  _ s19 ) (by rfl)
def sp_law0 (K : PySem.W.Frag) : Sp := fun vs H Q _ => ∃ (a : Addr) (ns : List Int), vs = [.ref a] ∧ SqL K H a (ns.map V.int) ∧ ns.length ≤ 63 ∧ ∀ H', Q (.bl true) H'
abbrev sp_law (K : PySem.W.Frag) (_ : Ads) : Sp := sp_law0 K
theorem ok_law (T : Txt K mg A) : FnOk P w K mg base CX0 6 A.a_law A.d_law ["_law_script"] (sp_law K A) := by
  have G__law_number : FnOk P w K mg base CX0 1 A.a__law_number A.d__law_number ["_law_script", "_law_k"] (sp__law_number K A) := ok__law_number T
  have G__law_take : FnOk P w K mg base CX0 1 A.a__law_take A.d__law_take ["_law_box", "_law_size"] (sp__law_take K A) := ok__law_take T
  have G__law_asked : FnOk P w K mg base CX0 5 A.a__law_asked A.d__law_asked ["_law_segments", "_law_blocks", "_law_size"] (sp__law_asked K A) := ok__law_asked T
  have G__law_places : FnOk P w K mg base CX0 3 A.a__law_places A.d__law_places ["_law_layout_here", "_law_box"] (sp__law_places K A) := ok__law_places T
  have G__law_any_layout : FnOk P w K mg base CX0 5 A.a__law_any_layout A.d__law_any_layout ["_law_box"] (sp__law_any_layout K A) := ok__law_any_layout T
  have G__law_same : FnOk P w K mg base CX0 2 A.a__law_same A.d__law_same ["_law_actual", "_law_due"] (sp__law_same K A) := ok__law_same T
  have G_parts_of : FnOk P w K mg base CX0 1 A.a_parts_of A.d_parts_of ["number", "size"] (sp_parts_of K A) := ok_parts_of T
  have G__law_parts : FnOk P w K mg base CX0 1 A.a__law_parts A.d__law_parts ["_law_number_here", "_law_size"] (sp__law_parts K A) := ok__law_parts T
  refine T.F_law.ok sc_law (fun vs H Q E h => ?_) (fun cdv A' outer s H vs Q E hRm h => ?_)
  · obtain ⟨a, ns, rfl, _⟩ := h
    rfl
  · obtain ⟨a, ns, rfl, hS, hlen, kq⟩ := h
    have hUn := hu_of hRm
    have s0 : Hs [] H [] H := Hs.start H
    refine ⟨_, (pss_cons (ps_set (i := 1) sc_law.nd rfl (.inl rfl) (pe_lst (pa_cons (pe_call G__law_number (hRm.mono (by decide)) (by rfl) T.g__law_number T.F__law_number.kp T.b__law_number .nil pass0 (pa_cons (pv 0) (pa_cons pe_int pa_nil))) pa_nil))) (pss_cons (ps_set (i := 2) sc_law.nd rfl (.inl rfl) (pe_lst (pa_cons pe_int (pa_cons pe_int (pa_cons pe_int (pa_cons pe_int (pa_cons pe_int (pa_cons pe_int (pa_cons pe_int (pa_cons pe_int (pa_cons pe_int (pa_cons pe_int (pa_cons pe_int (pa_cons pe_int (pa_cons pe_int pa_nil))))))))))))))) (pss_cons (ps_set (i := 3) sc_law.nd rfl (.inl rfl) (pe_call G__law_take (hRm.mono (by decide)) (by rfl) T.g__law_take T.F__law_take.kp T.b__law_take .nil pass0 (pa_cons (pv 1) (pa_cons pe_int pa_nil)))) (pss_cons (ps_set (i := 4) sc_law.nd rfl (.inl rfl) (pe_call G__law_take (hRm.mono (by decide)) (by rfl) T.g__law_take T.F__law_take.kp T.b__law_take .nil pass0 (pa_cons (pv 1) (pa_cons pe_int pa_nil)))) (pss_cons (ps_set (i := 5) sc_law.nd rfl (.inl rfl) (pe_call G__law_take (hRm.mono (by decide)) (by rfl) T.g__law_take T.F__law_take.kp T.b__law_take .nil pass0 (pa_cons (pv 1) (pa_cons pe_int pa_nil)))) (pss_cons (ps_set (i := 6) sc_law.nd rfl (.inl rfl) (pe_call G__law_take (hRm.mono (by decide)) (by rfl) T.g__law_take T.F__law_take.kp T.b__law_take .nil pass0 (pa_cons (pv 1) (pa_cons pe_int pa_nil)))) (pss_cons (ps_if (pt_cmpR op_lt (pv 5) pe_int (nomark _)) (pss_cons (ps_set (i := 6) sc_law.nd rfl (.inl rfl) (pe_ix ix_list (pv 2) (pv 5) (fun _ _ => rfl))) pss_nil) pss_nil) (pss_cons (ps_if (pt_not (pt_val (pe_call G__law_asked (hRm.mono (by decide)) (by rfl) T.g__law_asked T.F__law_asked.kp T.b__law_asked .nil pass0 (pa_cons (pv 3) (pa_cons (pv 4) (pa_cons (pv 6) pa_nil)))) (fun _ => rfl))) (pss_cons ps_never pss_nil) pss_nil) (pss_cons (ps_set (i := 1) sc_law.nd rfl (.inl rfl) (pe_lst (pa_cons (pe_call G__law_number (hRm.mono (by decide)) (by rfl) T.g__law_number T.F__law_number.kp T.b__law_number .nil pass0 (pa_cons (pv 0) (pa_cons pe_int pa_nil))) pa_nil))) (pss_cons (ps_set (i := 3) sc_law.nd rfl (.inl rfl) (pe_op op_add pe_int (pe_call G__law_take (hRm.mono (by decide)) (by rfl) T.g__law_take T.F__law_take.kp T.b__law_take .nil pass0 (pa_cons (pv 1) (pa_cons pe_int pa_nil))))) (pss_cons (ps_set (i := 4) sc_law.nd rfl (.inl rfl) (pe_op op_add pe_int (pe_call G__law_take (hRm.mono (by decide)) (by rfl) T.g__law_take T.F__law_take.kp T.b__law_take .nil pass0 (pa_cons (pv 1) (pa_cons pe_int pa_nil))))) (pss_cons (ps_for PassesOwn.never rfl (pi_list (pe_lst (pa_cons pe_int (pa_cons pe_int (pa_cons pe_int pa_nil))))) (pg_name (i := 6) sc_law.nd rfl (.inl rfl)) (pss_cons (ps_if (pt_not (pt_val (pe_call G__law_asked (hRm.mono (by decide)) (by rfl) T.g__law_asked T.F__law_asked.kp T.b__law_asked .nil pass0 (pa_cons (pv 3) (pa_cons (pv 4) (pa_cons (pv 6) pa_nil)))) (fun _ => rfl))) (pss_cons ps_never pss_nil) pss_nil) pss_nil)) (pss_cons (ps_if (pt_not (pt_val (pe_call G__law_places (hRm.mono (by decide)) (by rfl) T.g__law_places T.F__law_places.kp T.b__law_places .nil pass0 (pa_cons (pe_call G__law_any_layout (hRm.mono (by decide)) (by rfl) T.g__law_any_layout T.F__law_any_layout.kp T.b__law_any_layout .nil pass0 (pa_cons (pv 1) pa_nil)) (pa_cons (pv 1) pa_nil))) (fun _ => rfl))) (pss_cons ps_never pss_nil) pss_nil) (pss_cons (ps_set (i := 7) sc_law.nd rfl (.inl rfl) (pe_op op_mod (pe_callTy call_int1 (by rfl) T.z_int (by decide +kernel) (pa_cons (pe_call G__law_number (hRm.mono (by decide)) (by rfl) T.g__law_number T.F__law_number.kp T.b__law_number .nil pass0 (pa_cons (pv 0) (pa_cons pe_int pa_nil))) pa_nil)) (pe_op op_pow pe_int pe_int))) (pss_cons (ps_set (i := 6) sc_law.nd rfl (.inl rfl) (pe_op op_add pe_int (pe_op op_mod (pe_callTy call_int1 (by rfl) T.z_int (by decide +kernel) (pa_cons (pe_call G__law_number (hRm.mono (by decide)) (by rfl) T.g__law_number T.F__law_number.kp T.b__law_number .nil pass0 (pa_cons (pv 0) (pa_cons pe_int pa_nil))) pa_nil)) (pe_ix ix_list (pe_lst (pa_cons pe_int (pa_cons pe_int (pa_cons pe_int (pa_cons (pe_op op_pow pe_int pe_int) pa_nil))))) (pe_call G__law_take (hRm.mono (by decide)) (by rfl) T.g__law_take T.F__law_take.kp T.b__law_take .nil pass0 (pa_cons (pv 1) (pa_cons pe_int pa_nil))) (fun _ _ => rfl))))) (pss_cons (ps_ret (pe_and (pe_call G__law_same (hRm.mono (by decide)) (by rfl) T.g__law_same T.F__law_same.kp T.b__law_same .nil pass0 (pa_cons (pe_call G_parts_of (hRm.mono (by decide)) (by rfl) T.g_parts_of T.F_parts_of.kp T.b_parts_of .nil pass0 (pa_cons (pv 7) (pa_cons (pv 6) pa_nil))) (pa_cons (pe_call G__law_parts (hRm.mono (by decide)) (by rfl) T.g__law_parts T.F__law_parts.kp T.b__law_parts .nil pass0 (pa_cons (pv 7) (pa_cons (pv 6) pa_nil))) pa_nil))) (pe_one (pe_call G__law_same (hRm.mono (by decide)) (by rfl) T.g__law_same T.F__law_same.kp T.b__law_same .nil pass0 (pa_cons (pe_call G_parts_of (hRm.mono (by decide)) (by rfl) T.g_parts_of T.F_parts_of.kp T.b_parts_of .nil pass0 (pa_cons pe_int (pa_cons (pv 6) pa_nil))) (pa_cons pe_int pa_nil)))))) pss_nil)))))))))))))))), ?_⟩
    refine c_sig [some (V.ref a), none, none, none, none, none, none, none] rfl ?_
    refine c_set ?_
    refine c_lst ?_
    refine c_cons ?_
    obtain ⟨n1, en1⟩ : ∃ n : Int, n = (numK ns 0) := ⟨_, rfl⟩
    have en10 : 0 ≤ n1 := by rw [en1]; exact numK_nn _ _
    refine (vis (vcall (va (vv 0 rfl) (va vc va0)) (fun _ kC => ⟨a, ns, 0, rfl, (s0.sq hS), (by walk_at "side"), kC⟩)) (congrArg V.int en1.symm)) _ ?_
    refine c_nil ?_
    refine ⟨sz1 (by show 1 ≤ 1000000; decide), fun p2 np2 => ?_⟩
    have s3 : Hs [] H [(p2, .lst ([V.int n1]))] _ := s0.new np2 (.lst ([V.int n1]))
    refine k_set [some (V.ref a), some (V.ref p2), none, none, none, none, none, none] rfl ?_
    refine c_set ?_
    refine c_lst ?_
    refine c_cons ?_
    refine vc _ ?_
    refine c_cons ?_
    refine vc _ ?_
    refine c_cons ?_
    refine vc _ ?_
    refine c_cons ?_
    refine vc _ ?_
    refine c_cons ?_
    refine vc _ ?_
    refine c_cons ?_
    refine vc _ ?_
    refine c_cons ?_
    refine vc _ ?_
    refine c_cons ?_
    refine vc _ ?_
    refine c_cons ?_
    refine vc _ ?_
    refine c_cons ?_
    refine vc _ ?_
    refine c_cons ?_
    refine vc _ ?_
    refine c_cons ?_
    refine vc _ ?_
    refine c_cons ?_
    refine vc _ ?_
    refine c_nil ?_
    refine ⟨sz1 (by show 13 ≤ 1000000; decide), fun p4 np4 => ?_⟩
    have s5 : Hs [] H [(p4, .lst ([V.int 64, V.int 128, V.int 256, V.int 63, V.int 65, V.int 127, V.int 129, V.int 255, V.int 257, V.int 512, V.int 32, V.int 192, V.int 1024])), (p2, .lst ([V.int n1]))] _ := s3.new np4 (.lst ([V.int 64, V.int 128, V.int 256, V.int 63, V.int 65, V.int 127, V.int 129, V.int 255, V.int 257, V.int 512, V.int 32, V.int 192, V.int 1024]))
    refine k_set [some (V.ref a), some (V.ref p2), some (V.ref p4), none, none, none, none, none] rfl ?_
    refine c_set ?_
    refine c_callx ?_
    refine c_cons ?_
    refine (vv 1 rfl) _ ?_
    refine c_cons ?_
    refine vc _ ?_
    refine c_nil ?_
    refine ⟨p2, n1, 21, rfl, (s5.mem 1 rfl), (by walk_at "side"), (by walk_at "side"), fun H6 r7 => ?_⟩
    have s8 : Hs [] H [(p2, .lst ([V.int (n1 / 21)])), (p4, .lst ([V.int 64, V.int 128, V.int 256, V.int 63, V.int 65, V.int 127, V.int 129, V.int 255, V.int 257, V.int 512, V.int 32, V.int 192, V.int 1024]))] _ := s5.call (R := [(p4, .lst ([V.int 64, V.int 128, V.int 256, V.int 63, V.int 65, V.int 127, V.int 129, V.int 255, V.int 257, V.int 512, V.int 32, V.int 192, V.int 1024]))]) r7 [0] (by simp) (by decide) rfl (s5.sep [0] [1] (by decide) rfl rfl)
    obtain ⟨n9, en9⟩ : ∃ n : Int, n = (n1 % 21) := ⟨_, rfl⟩
    have en90 : 0 ≤ n9 := by rw [en9]; exact Int.emod_nonneg _ (by walk_at "side")
    have en91 : n9 < 21 := by rw [en9]; exact Int.emod_lt_of_pos _ (by walk_at "side")
    refine k_setv (.int n9) (congrArg V.int en9.symm) ?_
    refine k_set [some (V.ref a), some (V.ref p2), some (V.ref p4), some (V.int n9), none, none, none, none] rfl ?_
    refine c_set ?_
    refine c_callx ?_
    refine c_cons ?_
    refine (vv 1 rfl) _ ?_
    refine c_cons ?_
    refine vc _ ?_
    refine c_nil ?_
    refine ⟨p2, (n1 / 21), 41, rfl, (s8.mem 0 rfl), (by walk_at "side"), (by walk_at "side"), fun H10 r11 => ?_⟩
    have s12 : Hs [] H [(p2, .lst ([V.int ((n1 / 21) / 41)])), (p4, .lst ([V.int 64, V.int 128, V.int 256, V.int 63, V.int 65, V.int 127, V.int 129, V.int 255, V.int 257, V.int 512, V.int 32, V.int 192, V.int 1024]))] _ := s8.call (R := [(p4, .lst ([V.int 64, V.int 128, V.int 256, V.int 63, V.int 65, V.int 127, V.int 129, V.int 255, V.int 257, V.int 512, V.int 32, V.int 192, V.int 1024]))]) r11 [1] (by simp) (by decide) rfl (s8.sep [1] [0] (by decide) rfl rfl)
    obtain ⟨n13, en13⟩ : ∃ n : Int, n = ((n1 / 21) % 41) := ⟨_, rfl⟩
    have en130 : 0 ≤ n13 := by rw [en13]; exact Int.emod_nonneg _ (by walk_at "side")
    have en131 : n13 < 41 := by rw [en13]; exact Int.emod_lt_of_pos _ (by walk_at "side")
    refine k_setv (.int n13) (congrArg V.int en13.symm) ?_
    refine k_set [some (V.ref a), some (V.ref p2), some (V.ref p4), some (V.int n9), some (V.int n13), none, none, none] rfl ?_
    refine c_set ?_
    refine c_callx ?_
    refine c_cons ?_
    refine (vv 1 rfl) _ ?_
    refine c_cons ?_
    refine vc _ ?_
    refine c_nil ?_
    refine ⟨p2, ((n1 / 21) / 41), 15, rfl, (s12.mem 0 rfl), (by walk_at "side"), (by walk_at "side"), fun H14 r15 => ?_⟩
    have s16 : Hs [] H [(p2, .lst ([V.int (((n1 / 21) / 41) / 15)])), (p4, .lst ([V.int 64, V.int 128, V.int 256, V.int 63, V.int 65, V.int 127, V.int 129, V.int 255, V.int 257, V.int 512, V.int 32, V.int 192, V.int 1024]))] _ := s12.call (R := [(p4, .lst ([V.int 64, V.int 128, V.int 256, V.int 63, V.int 65, V.int 127, V.int 129, V.int 255, V.int 257, V.int 512, V.int 32, V.int 192, V.int 1024]))]) r15 [1] (by simp) (by decide) rfl (s12.sep [1] [0] (by decide) rfl rfl)
    obtain ⟨n17, en17⟩ : ∃ n : Int, n = (((n1 / 21) / 41) % 15) := ⟨_, rfl⟩
    have en170 : 0 ≤ n17 := by rw [en17]; exact Int.emod_nonneg _ (by walk_at "side")
    have en171 : n17 < 15 := by rw [en17]; exact Int.emod_lt_of_pos _ (by walk_at "side")
    refine k_setv (.int n17) (congrArg V.int en17.symm) ?_
    refine k_set [some (V.ref a), some (V.ref p2), some (V.ref p4), some (V.int n9), some (V.int n13), some (V.int n17), none, none] rfl ?_
    refine c_set ?_
    refine c_callx ?_
    refine c_cons ?_
    refine (vv 1 rfl) _ ?_
    refine c_cons ?_
    refine vc _ ?_
    refine c_nil ?_
    refine ⟨p2, (((n1 / 21) / 41) / 15), 4301, rfl, (s16.mem 0 rfl), (by walk_at "side"), (by walk_at "side"), fun H18 r19 => ?_⟩
    have s20 : Hs [] H [(p2, .lst ([V.int ((((n1 / 21) / 41) / 15) / 4301)])), (p4, .lst ([V.int 64, V.int 128, V.int 256, V.int 63, V.int 65, V.int 127, V.int 129, V.int 255, V.int 257, V.int 512, V.int 32, V.int 192, V.int 1024]))] _ := s16.call (R := [(p4, .lst ([V.int 64, V.int 128, V.int 256, V.int 63, V.int 65, V.int 127, V.int 129, V.int 255, V.int 257, V.int 512, V.int 32, V.int 192, V.int 1024]))]) r19 [1] (by simp) (by decide) rfl (s16.sep [1] [0] (by decide) rfl rfl)
    obtain ⟨n21, en21⟩ : ∃ n : Int, n = ((((n1 / 21) / 41) / 15) % 4301) := ⟨_, rfl⟩
    have en210 : 0 ≤ n21 := by rw [en21]; exact Int.emod_nonneg _ (by walk_at "side")
    have en211 : n21 < 4301 := by rw [en21]; exact Int.emod_lt_of_pos _ (by walk_at "side")
    refine k_setv (.int n21) (congrArg V.int en21.symm) ?_
    refine k_set [some (V.ref a), some (V.ref p2), some (V.ref p4), some (V.int n9), some (V.int n13), some (V.int n17), some (V.int n21), none] rfl ?_
    obtain ⟨n23, en23⟩ : ∃ n : Int, n = (if n17 < 13 then gi ([64, 128, 256, 63, 65, 127, 129, 255, 257, 512, 32, 192, 1024] : List Int) n17 else n21) := ⟨_, rfl⟩
    refine s_ifset [some (V.ref a), some (V.ref p2), some (V.ref p4), some (V.int n9), some (V.int n13), some (V.int n17), some (V.int n23), none] (.int n23) (vtest (v0 (g := fun i j => .bl (decide (i < j))) (vv 5 rfl) vc)) (fun h22 => vis (vixL (vv 2 rfl) (vv 5 rfl) (xs := (([64, 128, 256, 63, 65, 127, 129, 255, 257, 512, 32, 192, 1024] : List Int).map V.int)) (s20.l 1 rfl) (at_gi (by walk_at "side") (by walk_at "side"))) (congrArg V.int (by rw [en23, if_pos h22]))) rfl (fun h22 => by rw [en23, if_neg h22]) ?_
    refine c_ifS ?_
    refine c_not ?_
    refine c_tB ?_
    refine c_callx ?_
    refine c_cons ?_
    refine (vv 3 rfl) _ ?_
    refine c_cons ?_
    refine (vv 4 rfl) _ ?_
    refine c_cons ?_
    refine (vv 6 rfl) _ ?_
    refine c_nil ?_
    refine ⟨n9, n13, n23, rfl, fun H26 r27 => ?_⟩
    have s28 : Hs [] H [(p2, .lst ([V.int ((((n1 / 21) / 41) / 15) / 4301)])), (p4, .lst ([V.int 64, V.int 128, V.int 256, V.int 63, V.int 65, V.int 127, V.int 129, V.int 255, V.int 257, V.int 512, V.int 32, V.int 192, V.int 1024]))] _ := s20.call0 r27
    refine ⟨_, rfl, ?_⟩
    refine c_iteBn (fun h25 => ?_) (fun h25 => ?_)
    · -- no
      exfalso; walk_at "dead"
    · -- yes
      refine s_nxs ?_
      refine c_set ?_
      refine c_lst ?_
      refine c_cons ?_
      obtain ⟨n29, en29⟩ : ∃ n : Int, n = (numK ns 1) := ⟨_, rfl⟩
      have en290 : 0 ≤ n29 := by rw [en29]; exact numK_nn _ _
      refine (vis (vcall (va (vv 0 rfl) (va vc va0)) (fun _ kC => ⟨a, ns, 1, rfl, (s28.sq hS), (by walk_at "side"), kC⟩)) (congrArg V.int en29.symm)) _ ?_
      refine c_nil ?_
      refine ⟨sz1 (by show 1 ≤ 1000000; decide), fun p30 np30 => ?_⟩
      have s31 : Hs [] H [(p30, .lst ([V.int n29])), (p2, .lst ([V.int ((((n1 / 21) / 41) / 15) / 4301)])), (p4, .lst ([V.int 64, V.int 128, V.int 256, V.int 63, V.int 65, V.int 127, V.int 129, V.int 255, V.int 257, V.int 512, V.int 32, V.int 192, V.int 1024]))] _ := s28.new np30 (.lst ([V.int n29]))
      refine k_set [some (V.ref a), some (V.ref p30), some (V.ref p4), some (V.int n9), some (V.int n13), some (V.int n17), some (V.int n23), none] rfl ?_
      refine c_set ?_
      refine c_op ?_
      refine vc _ ?_
      refine c_callx ?_
      refine c_cons ?_
      refine (vv 1 rfl) _ ?_
      refine c_cons ?_
      refine vc _ ?_
      refine c_nil ?_
      refine ⟨p30, n29, 13, rfl, (s31.mem 0 rfl), (by walk_at "side"), (by walk_at "side"), fun H32 r33 => ?_⟩
      have s34 : Hs [] H [(p30, .lst ([V.int (n29 / 13)])), (p2, .lst ([V.int ((((n1 / 21) / 41) / 15) / 4301)])), (p4, .lst ([V.int 64, V.int 128, V.int 256, V.int 63, V.int 65, V.int 127, V.int 129, V.int 255, V.int 257, V.int 512, V.int 32, V.int 192, V.int 1024]))] _ := s31.call (R := [(p2, .lst ([V.int ((((n1 / 21) / 41) / 15) / 4301)])), (p4, .lst ([V.int 64, V.int 128, V.int 256, V.int 63, V.int 65, V.int 127, V.int 129, V.int 255, V.int 257, V.int 512, V.int 32, V.int 192, V.int 1024]))]) r33 [1, 2] (by simp) (by decide) rfl (s31.sep [1, 2] [0] (by decide) rfl rfl)
      refine ⟨_, _, rfl, rfl, ?_⟩
      obtain ⟨n35, en35⟩ : ∃ n : Int, n = (4 + (n29 % 13)) := ⟨_, rfl⟩
      refine k_setv (.int n35) (congrArg V.int en35.symm) ?_
      refine k_set [some (V.ref a), some (V.ref p30), some (V.ref p4), some (V.int n35), some (V.int n13), some (V.int n17), some (V.int n23), none] rfl ?_
      refine c_set ?_
      refine c_op ?_
      refine vc _ ?_
      refine c_callx ?_
      refine c_cons ?_
      refine (vv 1 rfl) _ ?_
      refine c_cons ?_
      refine vc _ ?_
      refine c_nil ?_
      refine ⟨p30, (n29 / 13), 17, rfl, (s34.mem 0 rfl), (by walk_at "side"), (by walk_at "side"), fun H36 r37 => ?_⟩
      have s38 : Hs [] H [(p30, .lst ([V.int ((n29 / 13) / 17)])), (p2, .lst ([V.int ((((n1 / 21) / 41) / 15) / 4301)])), (p4, .lst ([V.int 64, V.int 128, V.int 256, V.int 63, V.int 65, V.int 127, V.int 129, V.int 255, V.int 257, V.int 512, V.int 32, V.int 192, V.int 1024]))] _ := s34.call (R := [(p2, .lst ([V.int ((((n1 / 21) / 41) / 15) / 4301)])), (p4, .lst ([V.int 64, V.int 128, V.int 256, V.int 63, V.int 65, V.int 127, V.int 129, V.int 255, V.int 257, V.int 512, V.int 32, V.int 192, V.int 1024]))]) r37 [1, 2] (by simp) (by decide) rfl (s34.sep [1, 2] [0] (by decide) rfl rfl)
      refine ⟨_, _, rfl, rfl, ?_⟩
      obtain ⟨n39, en39⟩ : ∃ n : Int, n = (16 + ((n29 / 13) % 17)) := ⟨_, rfl⟩
      refine k_setv (.int n39) (congrArg V.int en39.symm) ?_
      refine k_set [some (V.ref a), some (V.ref p30), some (V.ref p4), some (V.int n35), some (V.int n39), some (V.int n17), some (V.int n23), none] rfl ?_
      refine c_forL ?_
      refine c_lst ?_
      refine c_cons ?_
      refine vc _ ?_
      refine c_cons ?_
      refine vc _ ?_
      refine c_cons ?_
      refine vc _ ?_
      refine c_nil ?_
      refine ⟨sz1 (by show 3 ≤ 1000000; decide), fun p40 np40 => ?_⟩
      have s41 : Hs [] H [(p40, .lst ([V.int 64, V.int 128, V.int 256])), (p30, .lst ([V.int ((n29 / 13) / 17)])), (p2, .lst ([V.int ((((n1 / 21) / 41) / 15) / 4301)])), (p4, .lst ([V.int 64, V.int 128, V.int 256, V.int 63, V.int 65, V.int 127, V.int 129, V.int 255, V.int 257, V.int 512, V.int 32, V.int 192, V.int 1024]))] _ := s38.new np40 (.lst ([V.int 64, V.int 128, V.int 256]))
      refine k_forL ?_
      refine s_forL vc (s41.l 0 rfl) (fun i42 σ' H' => ∃ (y__law_size : Option V), σ' = [some (V.ref a), some (V.ref p30), some (V.ref p4), some (V.int n35), some (V.int n39), some (V.int n17), y__law_size, none] ∧ Hs [] H [(p40, .lst ([V.int 64, V.int 128, V.int 256])), (p30, .lst ([V.int ((n29 / 13) / 17)])), (p2, .lst ([V.int ((((n1 / 21) / 41) / 15) / 4301)])), (p4, .lst ([V.int 64, V.int 128, V.int 256, V.int 63, V.int 65, V.int 127, V.int 129, V.int 255, V.int 257, V.int 512, V.int 32, V.int 192, V.int 1024]))] H') ?_ ?_ ?_ ?_
      · -- start
        refine ⟨_, rfl, s41.pick [0, 1, 2, 3] (by decide) (by walk_at "finL")⟩
      · intro i42 σ' H' _ hP; obtain ⟨y__law_size, rfl, sI⟩ := hP
        exact sI.l 0 rfl
      · intro i42 x44 σ' H' h43 hP; obtain ⟨y__law_size, rfl, sI⟩ := hP
        obtain ⟨n45, rfl, h43n⟩ := map_int_get (xs := ([64, 128, 256] : List Int)) h43
        refine c_sig [some (V.ref a), some (V.ref p30), some (V.ref p4), some (V.int n35), some (V.int n39), some (V.int n17), some (V.int n45), none] rfl ?_
        refine c_ifS ?_
        refine c_not ?_
        refine c_tB ?_
        refine c_callx ?_
        refine c_cons ?_
        refine (vv 3 rfl) _ ?_
        refine c_cons ?_
        refine (vv 4 rfl) _ ?_
        refine c_cons ?_
        refine (vv 6 rfl) _ ?_
        refine c_nil ?_
        refine ⟨n35, n39, n45, rfl, fun H48 r49 => ?_⟩
        have s50 : Hs [] H [(p40, .lst ([V.int 64, V.int 128, V.int 256])), (p30, .lst ([V.int ((n29 / 13) / 17)])), (p2, .lst ([V.int ((((n1 / 21) / 41) / 15) / 4301)])), (p4, .lst ([V.int 64, V.int 128, V.int 256, V.int 63, V.int 65, V.int 127, V.int 129, V.int 255, V.int 257, V.int 512, V.int 32, V.int 192, V.int 1024]))] _ := sI.call0 r49
        refine ⟨_, rfl, ?_⟩
        refine c_iteBn (fun h47 => ?_) (fun h47 => ?_)
        · -- no
          exfalso; walk_at "dead"
        · -- yes
          refine s_nxs ?_
          refine s_nx ?_
          refine ⟨_, rfl, s50.pick [0, 1, 2, 3] (by decide) (by walk_at "finL")⟩
      · intro σ' H' hP; obtain ⟨y__law_size, rfl, sI⟩ := hP
        refine c_ifS ?_
        refine c_not ?_
        refine c_tB ?_
        refine c_callx ?_
        refine c_cons ?_
        refine c_callx ?_
        refine c_cons ?_
        refine (vv 1 rfl) _ ?_
        refine c_nil ?_
        refine ⟨p30, ((n29 / 13) / 17), rfl, (sI.mem 1 rfl), fun p_53 dx_54 l_55 bq_56 H57 r58 f59 => ?_⟩
        have s60 : Hs [] H [(p_53, .ins A.c_Layout dx_54 [("segments", V.int l_55.g), ("segment_blocks", V.int l_55.b), ("block_size", V.int l_55.z), ("payload", V.int l_55.pay), ("limit", V.int l_55.lim), ("last_id", V.int l_55.last), ("fan", V.int (l_55.z / 2)), ("region_blocks", V.int l_55.reg), ("device_blocks", V.int l_55.dev)]), (p30, .lst ([V.int bq_56])), (p40, .lst ([V.int 64, V.int 128, V.int 256])), (p2, .lst ([V.int ((((n1 / 21) / 41) / 15) / 4301)])), (p4, .lst ([V.int 64, V.int 128, V.int 256, V.int 63, V.int 65, V.int 127, V.int 129, V.int 255, V.int 257, V.int 512, V.int 32, V.int 192, V.int 1024]))] _ := sI.call (R := [(p40, .lst ([V.int 64, V.int 128, V.int 256])), (p2, .lst ([V.int ((((n1 / 21) / 41) / 15) / 4301)])), (p4, .lst ([V.int 64, V.int 128, V.int 256, V.int 63, V.int 65, V.int 127, V.int 129, V.int 255, V.int 257, V.int 512, V.int 32, V.int 192, V.int 1024]))]) r58 [0, 2, 3] (by simp) (by decide) rfl (sI.sep [0, 2, 3] [1] (by decide) rfl rfl)
        refine c_cons ?_
        refine (vv 1 rfl) _ ?_
        refine c_nil ?_
        refine ⟨p_53, dx_54, p30, l_55, bq_56, rfl, (s60.mem 0 rfl), (s60.mem 1 rfl), (by walk_at "side"), fun bq_61 H62 r63 => ?_⟩
        have s64 : Hs [] H [(p30, .lst ([V.int bq_61])), (p_53, .ins A.c_Layout dx_54 [("segments", V.int l_55.g), ("segment_blocks", V.int l_55.b), ("block_size", V.int l_55.z), ("payload", V.int l_55.pay), ("limit", V.int l_55.lim), ("last_id", V.int l_55.last), ("fan", V.int (l_55.z / 2)), ("region_blocks", V.int l_55.reg), ("device_blocks", V.int l_55.dev)]), (p40, .lst ([V.int 64, V.int 128, V.int 256])), (p2, .lst ([V.int ((((n1 / 21) / 41) / 15) / 4301)])), (p4, .lst ([V.int 64, V.int 128, V.int 256, V.int 63, V.int 65, V.int 127, V.int 129, V.int 255, V.int 257, V.int 512, V.int 32, V.int 192, V.int 1024]))] _ := s60.call (R := [(p_53, .ins A.c_Layout dx_54 [("segments", V.int l_55.g), ("segment_blocks", V.int l_55.b), ("block_size", V.int l_55.z), ("payload", V.int l_55.pay), ("limit", V.int l_55.lim), ("last_id", V.int l_55.last), ("fan", V.int (l_55.z / 2)), ("region_blocks", V.int l_55.reg), ("device_blocks", V.int l_55.dev)]), (p40, .lst ([V.int 64, V.int 128, V.int 256])), (p2, .lst ([V.int ((((n1 / 21) / 41) / 15) / 4301)])), (p4, .lst ([V.int 64, V.int 128, V.int 256, V.int 63, V.int 65, V.int 127, V.int 129, V.int 255, V.int 257, V.int 512, V.int 32, V.int 192, V.int 1024]))]) r63 [0, 2, 3, 4] (by simp) (by decide) rfl (s60.sep [0, 2, 3, 4] [1] (by decide) rfl rfl)
        refine ⟨_, rfl, ?_⟩
        refine c_iteBn (fun h52 => ?_) (fun h52 => ?_)
        · -- no
          exfalso; walk_at "dead"
        · -- yes
          refine s_nxs ?_
          obtain ⟨n65, en65⟩ : ∃ n : Int, n = ((numK ns 2) % 100000000000000000000) := ⟨_, rfl⟩
          have en650 : 0 ≤ n65 := by rw [en65]; exact Int.emod_nonneg _ (by walk_at "side")
          have en651 : n65 < 100000000000000000000 := by rw [en65]; exact Int.emod_lt_of_pos _ (by walk_at "side")
          refine s_set [some (V.ref a), some (V.ref p30), some (V.ref p4), some (V.int n35), some (V.int n39), some (V.int n17), y__law_size, some (V.int n65)] (vis (v1 (C := fun _ j => 0 < j) (g := fun i j => .int (i % j)) (i := numK ns 2) (j := 100000000000000000000) (by walk_at "side") (vint (vcall (va (vv 0 rfl) (va vc va0)) (fun _ kC => ⟨a, ns, 2, rfl, (s64.sq hS), (by walk_at "side"), kC⟩))) (vis (v1 (C := CPow) (g := fun i j => .int (i ^ j.toNat)) ⟨by decide, by decide, by decide⟩ vc vc) (w := .int 100000000000000000000) (by rfl))) (congrArg V.int en65.symm)) rfl ?_
          refine c_set ?_
          refine c_op ?_
          refine vc _ ?_
          refine c_op ?_
          obtain ⟨n66, en66⟩ : ∃ n : Int, n = (numK ns 3) := ⟨_, rfl⟩
          have en660 : 0 ≤ n66 := by rw [en66]; exact numK_nn _ _
          refine (vis (vint (vcall (va (vv 0 rfl) (va vc va0)) (fun _ kC => ⟨a, ns, 3, rfl, (s64.sq hS), (by walk_at "side"), kC⟩))) (congrArg V.int en66.symm)) _ ?_
          refine c_op ?_
          refine c_lst ?_
          refine c_cons ?_
          refine vc _ ?_
          refine c_cons ?_
          refine vc _ ?_
          refine c_cons ?_
          refine vc _ ?_
          refine c_cons ?_
          refine (vis (v1 (C := CPow) (g := fun i j => .int (i ^ j.toNat)) ⟨by decide, by decide, by decide⟩ vc vc) (w := .int 1000000000000) (by rfl)) _ ?_
          refine c_nil ?_
          refine ⟨sz1 (by show 4 ≤ 1000000; decide), fun p67 np67 => ?_⟩
          have s68 : Hs [] H [(p67, .lst ([V.int 2, V.int 7, V.int 64, V.int 1000000000000])), (p30, .lst ([V.int bq_61])), (p_53, .ins A.c_Layout dx_54 [("segments", V.int l_55.g), ("segment_blocks", V.int l_55.b), ("block_size", V.int l_55.z), ("payload", V.int l_55.pay), ("limit", V.int l_55.lim), ("last_id", V.int l_55.last), ("fan", V.int (l_55.z / 2)), ("region_blocks", V.int l_55.reg), ("device_blocks", V.int l_55.dev)]), (p40, .lst ([V.int 64, V.int 128, V.int 256])), (p2, .lst ([V.int ((((n1 / 21) / 41) / 15) / 4301)])), (p4, .lst ([V.int 64, V.int 128, V.int 256, V.int 63, V.int 65, V.int 127, V.int 129, V.int 255, V.int 257, V.int 512, V.int 32, V.int 192, V.int 1024]))] _ := s64.new np67 (.lst ([V.int 2, V.int 7, V.int 64, V.int 1000000000000]))
          refine c_callx ?_
          refine c_cons ?_
          refine (vv 1 rfl) _ ?_
          refine c_cons ?_
          refine vc _ ?_
          refine c_nil ?_
          refine ⟨p30, bq_61, 4, rfl, (s68.mem 1 rfl), (by walk_at "side"), (by walk_at "side"), fun H69 r70 => ?_⟩
          have s71 : Hs [] H [(p30, .lst ([V.int (bq_61 / 4)])), (p67, .lst ([V.int 2, V.int 7, V.int 64, V.int 1000000000000])), (p_53, .ins A.c_Layout dx_54 [("segments", V.int l_55.g), ("segment_blocks", V.int l_55.b), ("block_size", V.int l_55.z), ("payload", V.int l_55.pay), ("limit", V.int l_55.lim), ("last_id", V.int l_55.last), ("fan", V.int (l_55.z / 2)), ("region_blocks", V.int l_55.reg), ("device_blocks", V.int l_55.dev)]), (p40, .lst ([V.int 64, V.int 128, V.int 256])), (p2, .lst ([V.int ((((n1 / 21) / 41) / 15) / 4301)])), (p4, .lst ([V.int 64, V.int 128, V.int 256, V.int 63, V.int 65, V.int 127, V.int 129, V.int 255, V.int 257, V.int 512, V.int 32, V.int 192, V.int 1024]))] _ := s68.call (R := [(p67, .lst ([V.int 2, V.int 7, V.int 64, V.int 1000000000000])), (p_53, .ins A.c_Layout dx_54 [("segments", V.int l_55.g), ("segment_blocks", V.int l_55.b), ("block_size", V.int l_55.z), ("payload", V.int l_55.pay), ("limit", V.int l_55.lim), ("last_id", V.int l_55.last), ("fan", V.int (l_55.z / 2)), ("region_blocks", V.int l_55.reg), ("device_blocks", V.int l_55.dev)]), (p40, .lst ([V.int 64, V.int 128, V.int 256])), (p2, .lst ([V.int ((((n1 / 21) / 41) / 15) / 4301)])), (p4, .lst ([V.int 64, V.int 128, V.int 256, V.int 63, V.int 65, V.int 127, V.int 129, V.int 255, V.int 257, V.int 512, V.int 32, V.int 192, V.int 1024]))]) r70 [0, 2, 3, 4, 5] (by simp) (by decide) rfl (s68.sep [0, 2, 3, 4, 5] [1] (by decide) rfl rfl)
          refine ⟨_, (([2, 7, 64, 1000000000000] : List Int).map V.int), _, _, rfl, rfl, (s71.l 1 rfl), (at_gi (by walk_at "side") (by walk_at "side")), ?_⟩
          obtain ⟨n72, en72⟩ : ∃ n : Int, n = (gi ([2, 7, 64, 1000000000000] : List Int) (bq_61 % 4)) := ⟨_, rfl⟩
          have en720 : n72 = 2 ∨ n72 = 7 ∨ n72 = 64 ∨ n72 = 1000000000000 := by
            have h := gi_mem (ns := ([2, 7, 64, 1000000000000] : List Int)) (i := (bq_61 % 4)) (by walk_at "side") (by walk_at "side")
            rw [← en72] at h
            simpa only [List.mem_cons, List.not_mem_nil, or_false] using h
          refine ⟨_, _, rfl, rfl, by walk_at "side", ?_⟩
          obtain ⟨n73, en73⟩ : ∃ n : Int, n = (n66 % (gi ([2, 7, 64, 1000000000000] : List Int) (bq_61 % 4))) := ⟨_, rfl⟩
          have en730 : 0 ≤ n73 := by rw [en73]; exact Int.emod_nonneg _ (by walk_at "side")
          have en731 : n73 < gi ([2, 7, 64, 1000000000000] : List Int) (bq_61 % 4) := by rw [en73]; exact Int.emod_lt_of_pos _ (by walk_at "side")
          refine ⟨_, _, rfl, rfl, ?_⟩
          obtain ⟨n74, en74⟩ : ∃ n : Int, n = (1 + (n66 % (gi ([2, 7, 64, 1000000000000] : List Int) (bq_61 % 4)))) := ⟨_, rfl⟩
          refine k_setv (.int n74) (congrArg V.int en74.symm) ?_
          refine k_set [some (V.ref a), some (V.ref p30), some (V.ref p4), some (V.int n35), some (V.int n39), some (V.int n17), some (V.int n74), some (V.int n65)] rfl ?_
          refine c_ret ?_
          refine c_andW (p := ((n65 + n74 - 1) / n74) = ((n65 + n74 - 1) / n74)) (q := ((0 + n74 - 1) / n74) = 0) s71 (fun Q' kQ => ?_) (fun H76 s77 h75 Q' kQ => ?_) (fun H78 s79 => ?_)
          · -- the first part
            refine c_callx ?_
            refine c_cons ?_
            obtain ⟨n80, en80⟩ : ∃ n : Int, n = ((n65 + n74 - 1) / n74) := ⟨_, rfl⟩
            refine (vis (vcall (va (vv 7 rfl) (va (vv 6 rfl) va0)) (fun _ kC => ⟨n65, n74, rfl, (by walk_at "side"), (by walk_at "side"), kC⟩)) (congrArg V.int en80.symm)) _ ?_
            refine c_cons ?_
            refine (vis (vcall (va (vv 7 rfl) (va (vv 6 rfl) va0)) (fun _ kC => ⟨n65, n74, rfl, (by walk_at "side"), (by walk_at "side"), (by walk_at "side"), kC⟩)) (congrArg V.int en80.symm)) _ ?_
            refine c_nil ?_
            refine .inr ⟨n80, n80, rfl, fun H81 r82 => ?_⟩
            have s83 : Hs [] H [(p30, .lst ([V.int (bq_61 / 4)])), (p67, .lst ([V.int 2, V.int 7, V.int 64, V.int 1000000000000])), (p_53, .ins A.c_Layout dx_54 [("segments", V.int l_55.g), ("segment_blocks", V.int l_55.b), ("block_size", V.int l_55.z), ("payload", V.int l_55.pay), ("limit", V.int l_55.lim), ("last_id", V.int l_55.last), ("fan", V.int (l_55.z / 2)), ("region_blocks", V.int l_55.reg), ("device_blocks", V.int l_55.dev)]), (p40, .lst ([V.int 64, V.int 128, V.int 256])), (p2, .lst ([V.int ((((n1 / 21) / 41) / 15) / 4301)])), (p4, .lst ([V.int 64, V.int 128, V.int 256, V.int 63, V.int 65, V.int 127, V.int 129, V.int 255, V.int 257, V.int 512, V.int 32, V.int 192, V.int 1024]))] _ := s71.call0 r82
            subst en80
            exact kQ _ (s83.pick [0, 1, 2, 3, 4, 5] (by decide) rfl)
          · -- the second part
            refine c_callx ?_
            refine c_cons ?_
            obtain ⟨n84, en84⟩ : ∃ n : Int, n = ((0 + n74 - 1) / n74) := ⟨_, rfl⟩
            refine (vis (vcall (va vc (va (vv 6 rfl) va0)) (fun _ kC => ⟨0, n74, rfl, (by walk_at "side"), (by walk_at "side"), kC⟩)) (congrArg V.int en84.symm)) _ ?_
            refine c_cons ?_
            refine vc _ ?_
            refine c_nil ?_
            refine .inr ⟨n84, 0, rfl, fun H85 r86 => ?_⟩
            have s87 : Hs [] H [(p30, .lst ([V.int (bq_61 / 4)])), (p67, .lst ([V.int 2, V.int 7, V.int 64, V.int 1000000000000])), (p_53, .ins A.c_Layout dx_54 [("segments", V.int l_55.g), ("segment_blocks", V.int l_55.b), ("block_size", V.int l_55.z), ("payload", V.int l_55.pay), ("limit", V.int l_55.lim), ("last_id", V.int l_55.last), ("fan", V.int (l_55.z / 2)), ("region_blocks", V.int l_55.reg), ("device_blocks", V.int l_55.dev)]), (p40, .lst ([V.int 64, V.int 128, V.int 256])), (p2, .lst ([V.int ((((n1 / 21) / 41) / 15) / 4301)])), (p4, .lst ([V.int 64, V.int 128, V.int 256, V.int 63, V.int 65, V.int 127, V.int 129, V.int 255, V.int 257, V.int 512, V.int 32, V.int 192, V.int 1024]))] _ := s77.call0 r86
            subst en84
            exact kQ _ (s87.pick [0, 1, 2, 3, 4, 5] (by decide) rfl)
          · -- on
            exact fin (kq _) (by first | rfl | exact congrArg V.bl (decide_eq_true ⟨rfl, div0 (by omega)⟩) | (simp_all; done))
end
theorem all_mk {l : PySem.W.OpenLaw} {w : World} {K : PySem.W.Frag} {h : Heap} {mg : Str → Option Value} {fa : Addr} {od_parts_of an_parts_of : Option Addr} {sl_parts_of : Array (Option Value)} {oc_parts_of kV_parts_of dc_parts_of pm_parts_of cd_parts_of ct_parts_of : Value} {a_parts_of : Addr}
    {od_Layout___init__ an_Layout___init__ : Option Addr} {sl_Layout___init__ : Array (Option Value)} {oc_Layout___init__ kV_Layout___init__ dc_Layout___init__ pm_Layout___init__ cd_Layout___init__ ct_Layout___init__ : Value} {a_Layout___init__ : Addr}
    {od_address_at an_address_at : Option Addr} {sl_address_at : Array (Option Value)} {oc_address_at kV_address_at dc_address_at pm_address_at cd_address_at ct_address_at : Value} {a_address_at : Addr}
    {od_segment_of an_segment_of : Option Addr} {sl_segment_of : Array (Option Value)} {oc_segment_of kV_segment_of dc_segment_of pm_segment_of cd_segment_of ct_segment_of : Value} {a_segment_of : Addr}
    {od_place_of an_place_of : Option Addr} {sl_place_of : Array (Option Value)} {oc_place_of kV_place_of dc_place_of pm_place_of cd_place_of ct_place_of : Value} {a_place_of : Addr}
    {od_region_start an_region_start : Option Addr} {sl_region_start : Array (Option Value)} {oc_region_start kV_region_start dc_region_start pm_region_start cd_region_start ct_region_start : Value} {a_region_start : Addr}
    {od__law_number an__law_number : Option Addr} {sl__law_number : Array (Option Value)} {oc__law_number kV__law_number dc__law_number pm__law_number cd__law_number ct__law_number : Value} {a__law_number : Addr}
    {od__law_take an__law_take : Option Addr} {sl__law_take : Array (Option Value)} {oc__law_take kV__law_take dc__law_take pm__law_take cd__law_take ct__law_take : Value} {a__law_take : Addr}
    {od__law_layout an__law_layout : Option Addr} {sl__law_layout : Array (Option Value)} {oc__law_layout kV__law_layout dc__law_layout pm__law_layout cd__law_layout ct__law_layout : Value} {a__law_layout : Addr}
    {od__law_is_number an__law_is_number : Option Addr} {sl__law_is_number : Array (Option Value)} {oc__law_is_number kV__law_is_number dc__law_is_number pm__law_is_number cd__law_is_number ct__law_is_number : Value} {a__law_is_number : Addr}
    {od__law_fits an__law_fits : Option Addr} {sl__law_fits : Array (Option Value)} {oc__law_fits kV__law_fits dc__law_fits pm__law_fits cd__law_fits ct__law_fits : Value} {a__law_fits : Addr}
    {od__law_told an__law_told : Option Addr} {sl__law_told : Array (Option Value)} {oc__law_told kV__law_told dc__law_told pm__law_told cd__law_told ct__law_told : Value} {a__law_told : Addr}
    {od__law_any_layout an__law_any_layout : Option Addr} {sl__law_any_layout : Array (Option Value)} {oc__law_any_layout kV__law_any_layout dc__law_any_layout pm__law_any_layout cd__law_any_layout ct__law_any_layout : Value} {a__law_any_layout : Addr}
    {od__law_same an__law_same : Option Addr} {sl__law_same : Array (Option Value)} {oc__law_same kV__law_same dc__law_same pm__law_same cd__law_same ct__law_same : Value} {a__law_same : Addr}
    {od__law_parts an__law_parts : Option Addr} {sl__law_parts : Array (Option Value)} {oc__law_parts kV__law_parts dc__law_parts pm__law_parts cd__law_parts ct__law_parts : Value} {a__law_parts : Addr}
    {od__law_refused an__law_refused : Option Addr} {sl__law_refused : Array (Option Value)} {oc__law_refused kV__law_refused dc__law_refused pm__law_refused cd__law_refused ct__law_refused : Value} {a__law_refused : Addr}
    {od__law_places an__law_places : Option Addr} {sl__law_places : Array (Option Value)} {oc__law_places kV__law_places dc__law_places pm__law_places cd__law_places ct__law_places : Value} {a__law_places : Addr}
    {od__law_asked an__law_asked : Option Addr} {sl__law_asked : Array (Option Value)} {oc__law_asked kV__law_asked dc__law_asked pm__law_asked cd__law_asked ct__law_asked : Value} {a__law_asked : Addr}
    {od_law an_law : Option Addr} {sl_law : Array (Option Value)} {oc_law kV_law dc_law pm_law cd_law ct_law : Value} {a_law : Addr}
    {c_InvalidFormat : Addr}
    {c_InvalidImage : Addr}
    {c_Layout : Addr}
    {c_OutOfRange : Addr}
    {c_SegmentError : Addr}
    {t_HEAD_OCTETS : Tok}
    {t_LEAST_BLOCKS : Tok}
    {t_LEAST_SEGMENTS : Tok}
    {t_MOST_BLOCKS : Tok}
    {t_MOST_SEGMENTS : Tok}
    {t_SLOTS : Tok} (X : K.In h) (G : h.Ns mainGlobals mg) (hfa : mg "law" = some (.ref fa))
    (g_InvalidFormat : PySem.W.nsIn K mainGlobals "InvalidFormat" = some (some (.ref c_InvalidFormat)))
    (xc_InvalidFormat : PySem.W.excIn K c_InvalidFormat [.type "ValueError", .type "Exception", .type "BaseException", .type "object"] "ValueError.__new__" = true)
    (kp_InvalidFormat : PySem.W.keepIn K (.ref c_InvalidFormat) = true)
    (be_InvalidFormat : PySem.W.subIn K (.ref c_InvalidFormat) (.type "BaseException") = some true)
    (ty_InvalidFormat : PySem.W.typeIn K (.ref c_InvalidFormat) = some (.type "type"))
    (g_InvalidImage : PySem.W.nsIn K mainGlobals "InvalidImage" = some (some (.ref c_InvalidImage)))
    (g_Layout : PySem.W.nsIn K mainGlobals "Layout" = some (some (.ref c_Layout)))
    (p1_Layout : PySem.W.plainGet K c_Layout Str.empty = true)
    (p2_Layout : PySem.W.hasDictIn K c_Layout = true)
    (p3_Layout : PySem.W.plainOver K c_Layout = true)
    (p4_Layout : PySem.W.findIn K (.ref c_Layout) "__setattr__" = some (some (.builtin "object.__setattr__")))
    (p5_Layout : PySem.W.makesIn K c_Layout = true)
    (p6_Layout : PySem.W.keepIn K (.ref c_Layout) = true)
    (g_OutOfRange : PySem.W.nsIn K mainGlobals "OutOfRange" = some (some (.ref c_OutOfRange)))
    (g_SegmentError : PySem.W.nsIn K mainGlobals "SegmentError" = some (some (.ref c_SegmentError)))
    (n_Layout_block_size : PySem.W.findIn K (.ref c_Layout) "block_size" = some none)
    (n_Layout_device_blocks : PySem.W.findIn K (.ref c_Layout) "device_blocks" = some none)
    (n_Layout_fan : PySem.W.findIn K (.ref c_Layout) "fan" = some none)
    (n_Layout_last_id : PySem.W.findIn K (.ref c_Layout) "last_id" = some none)
    (n_Layout_limit : PySem.W.findIn K (.ref c_Layout) "limit" = some none)
    (n_Layout_payload : PySem.W.findIn K (.ref c_Layout) "payload" = some none)
    (n_Layout_region_blocks : PySem.W.findIn K (.ref c_Layout) "region_blocks" = some none)
    (n_Layout_segment_blocks : PySem.W.findIn K (.ref c_Layout) "segment_blocks" = some none)
    (n_Layout_segments : PySem.W.findIn K (.ref c_Layout) "segments" = some none)
    (k_HEAD_OCTETS : PySem.W.nsIn K mainGlobals "HEAD_OCTETS" = some (some (.int 16 t_HEAD_OCTETS)))
    (k_LEAST_BLOCKS : PySem.W.nsIn K mainGlobals "LEAST_BLOCKS" = some (some (.int 16 t_LEAST_BLOCKS)))
    (k_LEAST_SEGMENTS : PySem.W.nsIn K mainGlobals "LEAST_SEGMENTS" = some (some (.int 4 t_LEAST_SEGMENTS)))
    (k_MOST_BLOCKS : PySem.W.nsIn K mainGlobals "MOST_BLOCKS" = some (some (.int 32 t_MOST_BLOCKS)))
    (k_MOST_SEGMENTS : PySem.W.nsIn K mainGlobals "MOST_SEGMENTS" = some (some (.int 16 t_MOST_SEGMENTS)))
    (k_SLOTS : PySem.W.nsIn K mainGlobals "SLOTS" = some (some (.int 3 t_SLOTS)))
    (z_ValueError : PySem.W.nsIn K mainGlobals "ValueError" = some none)
    (z_bool : PySem.W.nsIn K mainGlobals "bool" = some none)
    (z_int : PySem.W.nsIn K mainGlobals "int" = some none)
    (z_isinstance : PySem.W.nsIn K mainGlobals "isinstance" = some none)
    (z_len : PySem.W.nsIn K mainGlobals "len" = some none)
    (z_range : PySem.W.nsIn K mainGlobals "range" = some none)
    (ec0 : PySem.W.findIn K (.ref c_InvalidFormat) "__getattribute__" = some (some (.builtin "BaseException.__getattribute__")))
    (ec1 : PySem.W.findIn K (.ref c_InvalidFormat) "__getattr__" = some none)
    (ec2 : PySem.W.subIn K (.ref c_InvalidFormat) (.type "BaseException") = some true)
    (ec3 : PySem.W.hasDictIn K c_InvalidFormat = true)
    (ec4 : PySem.W.findIn K (.ref c_InvalidFormat) "__class__" = some (some (.builtin "object.__class__")))
    (ec5 : PySem.W.specialIn K (.builtin "object.__class__") "__get__" = some (some (.builtin "getset_descriptor.__get__")))
    (ec6 : PySem.W.takesIn K (.builtin "object.__class__") = some true)
    (ec7 : PySem.W.mroIn K c_InvalidFormat (.type "object") = some true)
    (sv_V : PySem.W.subIn K (.ref c_InvalidFormat) (.type "ValueError") = some true)
    (nq_OutOfRange : (Value.ref c_InvalidFormat == Value.ref c_OutOfRange) = false)
    (ic_OutOfRange : PySem.W.isClsIn K c_OutOfRange = true)
    (tp_OutOfRange : PySem.W.typeIn K (.ref c_OutOfRange) = some (.type "type"))
    (sb_OutOfRange : PySem.W.subIn K (.ref c_InvalidFormat) (.ref c_OutOfRange) = some false)
    (nq_InvalidImage : (Value.ref c_InvalidFormat == Value.ref c_InvalidImage) = false)
    (ic_InvalidImage : PySem.W.isClsIn K c_InvalidImage = true)
    (tp_InvalidImage : PySem.W.typeIn K (.ref c_InvalidImage) = some (.type "type"))
    (sb_InvalidImage : PySem.W.subIn K (.ref c_InvalidFormat) (.ref c_InvalidImage) = some false)
    (bs_SegmentError : PySem.W.subIn K (.ref c_SegmentError) (.type "BaseException") = some true)
    (hd_SegmentError : PySem.W.hasDictIn K c_SegmentError = true)
    (tp_SegmentError : PySem.W.typeIn K (.ref c_SegmentError) = some (.type "type"))
    (sb_SegmentError : PySem.W.subIn K (.ref c_InvalidFormat) (.ref c_SegmentError) = some true)
    (h1_parts_of : PySem.W.nsIn K mainGlobals "parts_of" = some (some (.ref a_parts_of)))
    (h3_parts_of : K.lookup a_parts_of = some ⟨oc_parts_of, od_parts_of, .func (PySem.W.fnOf "parts_of" "parts_of" (defArgs st_parts_of) (defBody st_parts_of) (defScope st_parts_of) .none kV_parts_of dc_parts_of pm_parts_of an_parts_of cd_parts_of ct_parts_of), sl_parts_of⟩)
    (h4_parts_of : PySem.W.codeIn K cd_parts_of "parts_of" = true)
    (h5_parts_of : PySem.W.keepIn K (.ref a_parts_of) = true)
    (h1_Layout___init__ : PySem.W.findIn K (.ref c_Layout) "__init__" = some (some (.ref a_Layout___init__)))
    (h2_Layout___init__ : PySem.W.isFn K (.ref a_Layout___init__) = true)
    (h3_Layout___init__ : K.lookup a_Layout___init__ = some ⟨oc_Layout___init__, od_Layout___init__, .func (PySem.W.fnOf "__init__" "Layout.__init__" (defArgs st_Layout___init__) (defBody st_Layout___init__) (defScope st_Layout___init__) .none kV_Layout___init__ dc_Layout___init__ pm_Layout___init__ an_Layout___init__ cd_Layout___init__ ct_Layout___init__), sl_Layout___init__⟩)
    (h4_Layout___init__ : PySem.W.codeIn K cd_Layout___init__ "Layout.__init__" = true)
    (h5_Layout___init__ : PySem.W.keepIn K (.ref a_Layout___init__) = true)
    (h1_address_at : PySem.W.nsIn K mainGlobals "address_at" = some (some (.ref a_address_at)))
    (h3_address_at : K.lookup a_address_at = some ⟨oc_address_at, od_address_at, .func (PySem.W.fnOf "address_at" "address_at" (defArgs st_address_at) (defBody st_address_at) (defScope st_address_at) .none kV_address_at dc_address_at pm_address_at an_address_at cd_address_at ct_address_at), sl_address_at⟩)
    (h4_address_at : PySem.W.codeIn K cd_address_at "address_at" = true)
    (h5_address_at : PySem.W.keepIn K (.ref a_address_at) = true)
    (h1_segment_of : PySem.W.nsIn K mainGlobals "segment_of" = some (some (.ref a_segment_of)))
    (h3_segment_of : K.lookup a_segment_of = some ⟨oc_segment_of, od_segment_of, .func (PySem.W.fnOf "segment_of" "segment_of" (defArgs st_segment_of) (defBody st_segment_of) (defScope st_segment_of) .none kV_segment_of dc_segment_of pm_segment_of an_segment_of cd_segment_of ct_segment_of), sl_segment_of⟩)
    (h4_segment_of : PySem.W.codeIn K cd_segment_of "segment_of" = true)
    (h5_segment_of : PySem.W.keepIn K (.ref a_segment_of) = true)
    (h1_place_of : PySem.W.nsIn K mainGlobals "place_of" = some (some (.ref a_place_of)))
    (h3_place_of : K.lookup a_place_of = some ⟨oc_place_of, od_place_of, .func (PySem.W.fnOf "place_of" "place_of" (defArgs st_place_of) (defBody st_place_of) (defScope st_place_of) .none kV_place_of dc_place_of pm_place_of an_place_of cd_place_of ct_place_of), sl_place_of⟩)
    (h4_place_of : PySem.W.codeIn K cd_place_of "place_of" = true)
    (h5_place_of : PySem.W.keepIn K (.ref a_place_of) = true)
    (h1_region_start : PySem.W.nsIn K mainGlobals "region_start" = some (some (.ref a_region_start)))
    (h3_region_start : K.lookup a_region_start = some ⟨oc_region_start, od_region_start, .func (PySem.W.fnOf "region_start" "region_start" (defArgs st_region_start) (defBody st_region_start) (defScope st_region_start) .none kV_region_start dc_region_start pm_region_start an_region_start cd_region_start ct_region_start), sl_region_start⟩)
    (h4_region_start : PySem.W.codeIn K cd_region_start "region_start" = true)
    (h5_region_start : PySem.W.keepIn K (.ref a_region_start) = true)
    (h1__law_number : PySem.W.nsIn K mainGlobals "_law_number" = some (some (.ref a__law_number)))
    (h3__law_number : K.lookup a__law_number = some ⟨oc__law_number, od__law_number, .func (PySem.W.fnOf "_law_number" "_law_number" (defArgs st__law_number) (defBody st__law_number) (defScope st__law_number) .none kV__law_number dc__law_number pm__law_number an__law_number cd__law_number ct__law_number), sl__law_number⟩)
    (h4__law_number : PySem.W.codeIn K cd__law_number "_law_number" = true)
    (h5__law_number : PySem.W.keepIn K (.ref a__law_number) = true)
    (h1__law_take : PySem.W.nsIn K mainGlobals "_law_take" = some (some (.ref a__law_take)))
    (h3__law_take : K.lookup a__law_take = some ⟨oc__law_take, od__law_take, .func (PySem.W.fnOf "_law_take" "_law_take" (defArgs st__law_take) (defBody st__law_take) (defScope st__law_take) .none kV__law_take dc__law_take pm__law_take an__law_take cd__law_take ct__law_take), sl__law_take⟩)
    (h4__law_take : PySem.W.codeIn K cd__law_take "_law_take" = true)
    (h5__law_take : PySem.W.keepIn K (.ref a__law_take) = true)
    (h1__law_layout : PySem.W.nsIn K mainGlobals "_law_layout" = some (some (.ref a__law_layout)))
    (h3__law_layout : K.lookup a__law_layout = some ⟨oc__law_layout, od__law_layout, .func (PySem.W.fnOf "_law_layout" "_law_layout" (defArgs st__law_layout) (defBody st__law_layout) (defScope st__law_layout) .none kV__law_layout dc__law_layout pm__law_layout an__law_layout cd__law_layout ct__law_layout), sl__law_layout⟩)
    (h4__law_layout : PySem.W.codeIn K cd__law_layout "_law_layout" = true)
    (h5__law_layout : PySem.W.keepIn K (.ref a__law_layout) = true)
    (h1__law_is_number : PySem.W.nsIn K mainGlobals "_law_is_number" = some (some (.ref a__law_is_number)))
    (h3__law_is_number : K.lookup a__law_is_number = some ⟨oc__law_is_number, od__law_is_number, .func (PySem.W.fnOf "_law_is_number" "_law_is_number" (defArgs st__law_is_number) (defBody st__law_is_number) (defScope st__law_is_number) .none kV__law_is_number dc__law_is_number pm__law_is_number an__law_is_number cd__law_is_number ct__law_is_number), sl__law_is_number⟩)
    (h4__law_is_number : PySem.W.codeIn K cd__law_is_number "_law_is_number" = true)
    (h5__law_is_number : PySem.W.keepIn K (.ref a__law_is_number) = true)
    (h1__law_fits : PySem.W.nsIn K mainGlobals "_law_fits" = some (some (.ref a__law_fits)))
    (h3__law_fits : K.lookup a__law_fits = some ⟨oc__law_fits, od__law_fits, .func (PySem.W.fnOf "_law_fits" "_law_fits" (defArgs st__law_fits) (defBody st__law_fits) (defScope st__law_fits) .none kV__law_fits dc__law_fits pm__law_fits an__law_fits cd__law_fits ct__law_fits), sl__law_fits⟩)
    (h4__law_fits : PySem.W.codeIn K cd__law_fits "_law_fits" = true)
    (h5__law_fits : PySem.W.keepIn K (.ref a__law_fits) = true)
    (h1__law_told : PySem.W.nsIn K mainGlobals "_law_told" = some (some (.ref a__law_told)))
    (h3__law_told : K.lookup a__law_told = some ⟨oc__law_told, od__law_told, .func (PySem.W.fnOf "_law_told" "_law_told" (defArgs st__law_told) (defBody st__law_told) (defScope st__law_told) .none kV__law_told dc__law_told pm__law_told an__law_told cd__law_told ct__law_told), sl__law_told⟩)
    (h4__law_told : PySem.W.codeIn K cd__law_told "_law_told" = true)
    (h5__law_told : PySem.W.keepIn K (.ref a__law_told) = true)
    (h1__law_any_layout : PySem.W.nsIn K mainGlobals "_law_any_layout" = some (some (.ref a__law_any_layout)))
    (h3__law_any_layout : K.lookup a__law_any_layout = some ⟨oc__law_any_layout, od__law_any_layout, .func (PySem.W.fnOf "_law_any_layout" "_law_any_layout" (defArgs st__law_any_layout) (defBody st__law_any_layout) (defScope st__law_any_layout) .none kV__law_any_layout dc__law_any_layout pm__law_any_layout an__law_any_layout cd__law_any_layout ct__law_any_layout), sl__law_any_layout⟩)
    (h4__law_any_layout : PySem.W.codeIn K cd__law_any_layout "_law_any_layout" = true)
    (h5__law_any_layout : PySem.W.keepIn K (.ref a__law_any_layout) = true)
    (h1__law_same : PySem.W.nsIn K mainGlobals "_law_same" = some (some (.ref a__law_same)))
    (h3__law_same : K.lookup a__law_same = some ⟨oc__law_same, od__law_same, .func (PySem.W.fnOf "_law_same" "_law_same" (defArgs st__law_same) (defBody st__law_same) (defScope st__law_same) .none kV__law_same dc__law_same pm__law_same an__law_same cd__law_same ct__law_same), sl__law_same⟩)
    (h4__law_same : PySem.W.codeIn K cd__law_same "_law_same" = true)
    (h5__law_same : PySem.W.keepIn K (.ref a__law_same) = true)
    (h1__law_parts : PySem.W.nsIn K mainGlobals "_law_parts" = some (some (.ref a__law_parts)))
    (h3__law_parts : K.lookup a__law_parts = some ⟨oc__law_parts, od__law_parts, .func (PySem.W.fnOf "_law_parts" "_law_parts" (defArgs st__law_parts) (defBody st__law_parts) (defScope st__law_parts) .none kV__law_parts dc__law_parts pm__law_parts an__law_parts cd__law_parts ct__law_parts), sl__law_parts⟩)
    (h4__law_parts : PySem.W.codeIn K cd__law_parts "_law_parts" = true)
    (h5__law_parts : PySem.W.keepIn K (.ref a__law_parts) = true)
    (h1__law_refused : PySem.W.nsIn K mainGlobals "_law_refused" = some (some (.ref a__law_refused)))
    (h3__law_refused : K.lookup a__law_refused = some ⟨oc__law_refused, od__law_refused, .func (PySem.W.fnOf "_law_refused" "_law_refused" (defArgs st__law_refused) (defBody st__law_refused) (defScope st__law_refused) .none kV__law_refused dc__law_refused pm__law_refused an__law_refused cd__law_refused ct__law_refused), sl__law_refused⟩)
    (h4__law_refused : PySem.W.codeIn K cd__law_refused "_law_refused" = true)
    (h5__law_refused : PySem.W.keepIn K (.ref a__law_refused) = true)
    (h1__law_places : PySem.W.nsIn K mainGlobals "_law_places" = some (some (.ref a__law_places)))
    (h3__law_places : K.lookup a__law_places = some ⟨oc__law_places, od__law_places, .func (PySem.W.fnOf "_law_places" "_law_places" (defArgs st__law_places) (defBody st__law_places) (defScope st__law_places) .none kV__law_places dc__law_places pm__law_places an__law_places cd__law_places ct__law_places), sl__law_places⟩)
    (h4__law_places : PySem.W.codeIn K cd__law_places "_law_places" = true)
    (h5__law_places : PySem.W.keepIn K (.ref a__law_places) = true)
    (h1__law_asked : PySem.W.nsIn K mainGlobals "_law_asked" = some (some (.ref a__law_asked)))
    (h3__law_asked : K.lookup a__law_asked = some ⟨oc__law_asked, od__law_asked, .func (PySem.W.fnOf "_law_asked" "_law_asked" (defArgs st__law_asked) (defBody st__law_asked) (defScope st__law_asked) .none kV__law_asked dc__law_asked pm__law_asked an__law_asked cd__law_asked ct__law_asked), sl__law_asked⟩)
    (h4__law_asked : PySem.W.codeIn K cd__law_asked "_law_asked" = true)
    (h5__law_asked : PySem.W.keepIn K (.ref a__law_asked) = true)
    (h1_law : PySem.W.nsIn K mainGlobals "law" = some (some (.ref a_law)))
    (h3_law : K.lookup a_law = some ⟨oc_law, od_law, .func (PySem.W.fnOf "law" "law" (defArgs st_law) (defBody st_law) (defScope st_law) .none kV_law dc_law pm_law an_law cd_law ct_law), sl_law⟩)
    (h4_law : PySem.W.codeIn K cd_law "law" = true)
    (h5_law : PySem.W.keepIn K (.ref a_law) = true)
    : ∃ fd : FuncData, (∀ (s : Shared) (v : Value), BindsTo s fd ⟨[v], []⟩ [("_law_script", v)]) ∧ ∀ base : Heap, K.In base → base.Ns mainGlobals mg → FnOk l.prog w K mg base CX0 6 fa fd ["_law_script"] (sp_law0 K) := by
  have e := hfa.symm.trans (PySem.W.mg_of X G h1_law)
  cases e
  let A : Ads := ⟨a_parts_of, PySem.W.fnOf "parts_of" "parts_of" (defArgs st_parts_of) (defBody st_parts_of) (defScope st_parts_of) .none kV_parts_of dc_parts_of pm_parts_of an_parts_of cd_parts_of ct_parts_of, a_Layout___init__, PySem.W.fnOf "__init__" "Layout.__init__" (defArgs st_Layout___init__) (defBody st_Layout___init__) (defScope st_Layout___init__) .none kV_Layout___init__ dc_Layout___init__ pm_Layout___init__ an_Layout___init__ cd_Layout___init__ ct_Layout___init__, a_address_at, PySem.W.fnOf "address_at" "address_at" (defArgs st_address_at) (defBody st_address_at) (defScope st_address_at) .none kV_address_at dc_address_at pm_address_at an_address_at cd_address_at ct_address_at, a_segment_of, PySem.W.fnOf "segment_of" "segment_of" (defArgs st_segment_of) (defBody st_segment_of) (defScope st_segment_of) .none kV_segment_of dc_segment_of pm_segment_of an_segment_of cd_segment_of ct_segment_of, a_place_of, PySem.W.fnOf "place_of" "place_of" (defArgs st_place_of) (defBody st_place_of) (defScope st_place_of) .none kV_place_of dc_place_of pm_place_of an_place_of cd_place_of ct_place_of, a_region_start, PySem.W.fnOf "region_start" "region_start" (defArgs st_region_start) (defBody st_region_start) (defScope st_region_start) .none kV_region_start dc_region_start pm_region_start an_region_start cd_region_start ct_region_start, a__law_number, PySem.W.fnOf "_law_number" "_law_number" (defArgs st__law_number) (defBody st__law_number) (defScope st__law_number) .none kV__law_number dc__law_number pm__law_number an__law_number cd__law_number ct__law_number, a__law_take, PySem.W.fnOf "_law_take" "_law_take" (defArgs st__law_take) (defBody st__law_take) (defScope st__law_take) .none kV__law_take dc__law_take pm__law_take an__law_take cd__law_take ct__law_take, a__law_layout, PySem.W.fnOf "_law_layout" "_law_layout" (defArgs st__law_layout) (defBody st__law_layout) (defScope st__law_layout) .none kV__law_layout dc__law_layout pm__law_layout an__law_layout cd__law_layout ct__law_layout, a__law_is_number, PySem.W.fnOf "_law_is_number" "_law_is_number" (defArgs st__law_is_number) (defBody st__law_is_number) (defScope st__law_is_number) .none kV__law_is_number dc__law_is_number pm__law_is_number an__law_is_number cd__law_is_number ct__law_is_number, a__law_fits, PySem.W.fnOf "_law_fits" "_law_fits" (defArgs st__law_fits) (defBody st__law_fits) (defScope st__law_fits) .none kV__law_fits dc__law_fits pm__law_fits an__law_fits cd__law_fits ct__law_fits, a__law_told, PySem.W.fnOf "_law_told" "_law_told" (defArgs st__law_told) (defBody st__law_told) (defScope st__law_told) .none kV__law_told dc__law_told pm__law_told an__law_told cd__law_told ct__law_told, a__law_any_layout, PySem.W.fnOf "_law_any_layout" "_law_any_layout" (defArgs st__law_any_layout) (defBody st__law_any_layout) (defScope st__law_any_layout) .none kV__law_any_layout dc__law_any_layout pm__law_any_layout an__law_any_layout cd__law_any_layout ct__law_any_layout, a__law_same, PySem.W.fnOf "_law_same" "_law_same" (defArgs st__law_same) (defBody st__law_same) (defScope st__law_same) .none kV__law_same dc__law_same pm__law_same an__law_same cd__law_same ct__law_same, a__law_parts, PySem.W.fnOf "_law_parts" "_law_parts" (defArgs st__law_parts) (defBody st__law_parts) (defScope st__law_parts) .none kV__law_parts dc__law_parts pm__law_parts an__law_parts cd__law_parts ct__law_parts, a__law_refused, PySem.W.fnOf "_law_refused" "_law_refused" (defArgs st__law_refused) (defBody st__law_refused) (defScope st__law_refused) .none kV__law_refused dc__law_refused pm__law_refused an__law_refused cd__law_refused ct__law_refused, a__law_places, PySem.W.fnOf "_law_places" "_law_places" (defArgs st__law_places) (defBody st__law_places) (defScope st__law_places) .none kV__law_places dc__law_places pm__law_places an__law_places cd__law_places ct__law_places, a__law_asked, PySem.W.fnOf "_law_asked" "_law_asked" (defArgs st__law_asked) (defBody st__law_asked) (defScope st__law_asked) .none kV__law_asked dc__law_asked pm__law_asked an__law_asked cd__law_asked ct__law_asked, fa, PySem.W.fnOf "law" "law" (defArgs st_law) (defBody st_law) (defScope st_law) .none kV_law dc_law pm_law an_law cd_law ct_law, c_InvalidFormat, c_InvalidImage, c_Layout, c_OutOfRange, c_SegmentError, t_HEAD_OCTETS, t_LEAST_BLOCKS, t_LEAST_SEGMENTS, t_MOST_BLOCKS, t_MOST_SEGMENTS, t_SLOTS⟩
  have T : Txt K mg A := ⟨fun_mk (st := st_parts_of) h3_parts_of h4_parts_of h5_parts_of,
    (fun_mk (st := st_parts_of) h3_parts_of h4_parts_of h5_parts_of).binds (ps := ["number", "size"]) fun _ _ _ _ _ _ us hl => match us, hl with | [_, _], _ => rfl,
    PySem.W.mg_of X G h1_parts_of,
    fun_mk (st := st_Layout___init__) h3_Layout___init__ h4_Layout___init__ h5_Layout___init__,
    (fun_mk (st := st_Layout___init__) h3_Layout___init__ h4_Layout___init__ h5_Layout___init__).binds (ps := ["self", "segments", "segment_blocks", "block_size"]) fun _ _ _ _ _ _ us hl => match us, hl with | [_, _, _, _], _ => rfl,
    fun_mk (st := st_address_at) h3_address_at h4_address_at h5_address_at,
    (fun_mk (st := st_address_at) h3_address_at h4_address_at h5_address_at).binds (ps := ["layout", "segment", "place"]) fun _ _ _ _ _ _ us hl => match us, hl with | [_, _, _], _ => rfl,
    PySem.W.mg_of X G h1_address_at,
    fun_mk (st := st_segment_of) h3_segment_of h4_segment_of h5_segment_of,
    (fun_mk (st := st_segment_of) h3_segment_of h4_segment_of h5_segment_of).binds (ps := ["layout", "address"]) fun _ _ _ _ _ _ us hl => match us, hl with | [_, _], _ => rfl,
    PySem.W.mg_of X G h1_segment_of,
    fun_mk (st := st_place_of) h3_place_of h4_place_of h5_place_of,
    (fun_mk (st := st_place_of) h3_place_of h4_place_of h5_place_of).binds (ps := ["layout", "address"]) fun _ _ _ _ _ _ us hl => match us, hl with | [_, _], _ => rfl,
    PySem.W.mg_of X G h1_place_of,
    fun_mk (st := st_region_start) h3_region_start h4_region_start h5_region_start,
    (fun_mk (st := st_region_start) h3_region_start h4_region_start h5_region_start).binds (ps := ["layout", "region"]) fun _ _ _ _ _ _ us hl => match us, hl with | [_, _], _ => rfl,
    PySem.W.mg_of X G h1_region_start,
    fun_mk (st := st__law_number) h3__law_number h4__law_number h5__law_number,
    (fun_mk (st := st__law_number) h3__law_number h4__law_number h5__law_number).binds (ps := ["_law_script", "_law_k"]) fun _ _ _ _ _ _ us hl => match us, hl with | [_, _], _ => rfl,
    PySem.W.mg_of X G h1__law_number,
    fun_mk (st := st__law_take) h3__law_take h4__law_take h5__law_take,
    (fun_mk (st := st__law_take) h3__law_take h4__law_take h5__law_take).binds (ps := ["_law_box", "_law_size"]) fun _ _ _ _ _ _ us hl => match us, hl with | [_, _], _ => rfl,
    PySem.W.mg_of X G h1__law_take,
    fun_mk (st := st__law_layout) h3__law_layout h4__law_layout h5__law_layout,
    (fun_mk (st := st__law_layout) h3__law_layout h4__law_layout h5__law_layout).binds (ps := ["_law_digit"]) fun _ _ _ _ _ _ us hl => match us, hl with | [_], _ => rfl,
    PySem.W.mg_of X G h1__law_layout,
    fun_mk (st := st__law_is_number) h3__law_is_number h4__law_is_number h5__law_is_number,
    (fun_mk (st := st__law_is_number) h3__law_is_number h4__law_is_number h5__law_is_number).binds (ps := ["_law_actual"]) fun _ _ _ _ _ _ us hl => match us, hl with | [_], _ => rfl,
    PySem.W.mg_of X G h1__law_is_number,
    fun_mk (st := st__law_fits) h3__law_fits h4__law_fits h5__law_fits,
    (fun_mk (st := st__law_fits) h3__law_fits h4__law_fits h5__law_fits).binds (ps := ["_law_segments", "_law_blocks", "_law_size"]) fun _ _ _ _ _ _ us hl => match us, hl with | [_, _, _], _ => rfl,
    PySem.W.mg_of X G h1__law_fits,
    fun_mk (st := st__law_told) h3__law_told h4__law_told h5__law_told,
    (fun_mk (st := st__law_told) h3__law_told h4__law_told h5__law_told).binds (ps := ["_law_layout_here", "_law_segments", "_law_blocks", "_law_size"]) fun _ _ _ _ _ _ us hl => match us, hl with | [_, _, _, _], _ => rfl,
    PySem.W.mg_of X G h1__law_told,
    fun_mk (st := st__law_any_layout) h3__law_any_layout h4__law_any_layout h5__law_any_layout,
    (fun_mk (st := st__law_any_layout) h3__law_any_layout h4__law_any_layout h5__law_any_layout).binds (ps := ["_law_box"]) fun _ _ _ _ _ _ us hl => match us, hl with | [_], _ => rfl,
    PySem.W.mg_of X G h1__law_any_layout,
    fun_mk (st := st__law_same) h3__law_same h4__law_same h5__law_same,
    (fun_mk (st := st__law_same) h3__law_same h4__law_same h5__law_same).binds (ps := ["_law_actual", "_law_due"]) fun _ _ _ _ _ _ us hl => match us, hl with | [_, _], _ => rfl,
    PySem.W.mg_of X G h1__law_same,
    fun_mk (st := st__law_parts) h3__law_parts h4__law_parts h5__law_parts,
    (fun_mk (st := st__law_parts) h3__law_parts h4__law_parts h5__law_parts).binds (ps := ["_law_number_here", "_law_size"]) fun _ _ _ _ _ _ us hl => match us, hl with | [_, _], _ => rfl,
    PySem.W.mg_of X G h1__law_parts,
    fun_mk (st := st__law_refused) h3__law_refused h4__law_refused h5__law_refused,
    (fun_mk (st := st__law_refused) h3__law_refused h4__law_refused h5__law_refused).binds (ps := ["_law_segments", "_law_blocks", "_law_size"]) fun _ _ _ _ _ _ us hl => match us, hl with | [_, _, _], _ => rfl,
    PySem.W.mg_of X G h1__law_refused,
    fun_mk (st := st__law_places) h3__law_places h4__law_places h5__law_places,
    (fun_mk (st := st__law_places) h3__law_places h4__law_places h5__law_places).binds (ps := ["_law_layout_here", "_law_box"]) fun _ _ _ _ _ _ us hl => match us, hl with | [_, _], _ => rfl,
    PySem.W.mg_of X G h1__law_places,
    fun_mk (st := st__law_asked) h3__law_asked h4__law_asked h5__law_asked,
    (fun_mk (st := st__law_asked) h3__law_asked h4__law_asked h5__law_asked).binds (ps := ["_law_segments", "_law_blocks", "_law_size"]) fun _ _ _ _ _ _ us hl => match us, hl with | [_, _, _], _ => rfl,
    PySem.W.mg_of X G h1__law_asked,
    fun_mk (st := st_law) h3_law h4_law h5_law,
    (fun_mk (st := st_law) h3_law h4_law h5_law).binds (ps := ["_law_script"]) fun _ _ _ _ _ _ us hl => match us, hl with | [_], _ => rfl,
    PySem.W.mg_of X G h1_law,
    PySem.W.mg_of X G g_InvalidFormat,
    PySem.W.mg_of X G g_InvalidImage,
    PySem.W.mg_of X G g_Layout,
    ⟨p1_Layout, p2_Layout, p3_Layout, p4_Layout⟩,
    ⟨p5_Layout, h1_Layout___init__, h2_Layout___init__, p6_Layout⟩,
    PySem.W.mg_of X G g_OutOfRange,
    PySem.W.mg_of X G g_SegmentError,
    xc_InvalidFormat,
    kp_InvalidFormat,
    be_InvalidFormat,
    ty_InvalidFormat,
    n_Layout_block_size,
    n_Layout_device_blocks,
    n_Layout_fan,
    n_Layout_last_id,
    n_Layout_limit,
    n_Layout_payload,
    n_Layout_region_blocks,
    n_Layout_segment_blocks,
    n_Layout_segments,
    PySem.W.mg_of X G k_HEAD_OCTETS,
    PySem.W.mg_of X G k_LEAST_BLOCKS,
    PySem.W.mg_of X G k_LEAST_SEGMENTS,
    PySem.W.mg_of X G k_MOST_BLOCKS,
    PySem.W.mg_of X G k_MOST_SEGMENTS,
    PySem.W.mg_of X G k_SLOTS,
    PySem.W.mg_none_of X G z_ValueError,
    PySem.W.mg_none_of X G z_bool,
    PySem.W.mg_none_of X G z_int,
    PySem.W.mg_none_of X G z_isinstance,
    PySem.W.mg_none_of X G z_len,
    PySem.W.mg_none_of X G z_range,
    ⟨ec0, ec1, ec2, ec3, ec4, ec5, ec6, ec7⟩,
    kit_bt (by decide +kernel) sv_V,
    kit_own nq_OutOfRange ic_OutOfRange tp_OutOfRange sb_OutOfRange,
    kit_own nq_InvalidImage ic_InvalidImage tp_InvalidImage sb_InvalidImage,
    if_pos (beq_self_eq_true _),
    PySem.W.exm_ref bs_SegmentError hd_SegmentError tp_SegmentError sb_SegmentError⟩
  exact ⟨PySem.W.fnOf "law" "law" (defArgs st_law) (defBody st_law) (defScope st_law) .none kV_law dc_law pm_law an_law cd_law ct_law, fun s v => .of_eq rfl, fun base _ _ => ok_law T⟩
end X
open PySem PySem.W PyProof.Rows
set_option maxHeartbeats 0 in
theorem PySem.Challenge.cw_segmentfs_k64_layouts_and_addresses_holds : PySem.Challenge.rw_segmentfs_k64_layouts_and_addresses.Holds := by
  w_on; o_law; k_head; (case hw => w_witness2)
  k_fill
  refine L2.walk_of (l := PySem.Challenge.rw_segmentfs_k64_layouts_and_addresses) (n := 63) (k := 6) (x := "_law_script") (CX := fun _ => L2.CX0) (sp := fun w => X.sp_law0 _) rfl (by decide) rfl ⟨rfl, by decide, by decide⟩ (fun w h Y => PySem.W.kIn_of Y) ?F (fun _ _ a ns hl _ hS => ⟨a, ns, rfl, hS, hl, fun _ => rfl⟩) (fun _ _ _ _ _ h => h)
  case F =>
    intro w mg fa h KX G hmg
    refine' X.all_mk KX G hmg ?g_InvalidFormat ?xc_InvalidFormat ?kp_InvalidFormat ?be_InvalidFormat ?ty_InvalidFormat ?g_InvalidImage ?g_Layout ?p1_Layout ?p2_Layout ?p3_Layout ?p4_Layout ?p5_Layout ?p6_Layout ?g_OutOfRange ?g_SegmentError ?n_Layout_block_size ?n_Layout_device_blocks ?n_Layout_fan ?n_Layout_last_id ?n_Layout_limit ?n_Layout_payload ?n_Layout_region_blocks ?n_Layout_segment_blocks ?n_Layout_segments ?k_HEAD_OCTETS ?k_LEAST_BLOCKS ?k_LEAST_SEGMENTS ?k_MOST_BLOCKS ?k_MOST_SEGMENTS ?k_SLOTS ?z_ValueError ?z_bool ?z_int ?z_isinstance ?z_len ?z_range ?ec0 ?ec1 ?ec2 ?ec3 ?ec4 ?ec5 ?ec6 ?ec7 ?sv_V ?nq_OutOfRange ?ic_OutOfRange ?tp_OutOfRange ?sb_OutOfRange ?nq_InvalidImage ?ic_InvalidImage ?tp_InvalidImage ?sb_InvalidImage ?bs_SegmentError ?hd_SegmentError ?tp_SegmentError ?sb_SegmentError ?h1_parts_of ?h3_parts_of ?h4_parts_of ?h5_parts_of ?h1_Layout___init__ ?h2_Layout___init__ ?h3_Layout___init__ ?h4_Layout___init__ ?h5_Layout___init__ ?h1_address_at ?h3_address_at ?h4_address_at ?h5_address_at ?h1_segment_of ?h3_segment_of ?h4_segment_of ?h5_segment_of ?h1_place_of ?h3_place_of ?h4_place_of ?h5_place_of ?h1_region_start ?h3_region_start ?h4_region_start ?h5_region_start ?h1__law_number ?h3__law_number ?h4__law_number ?h5__law_number ?h1__law_take ?h3__law_take ?h4__law_take ?h5__law_take ?h1__law_layout ?h3__law_layout ?h4__law_layout ?h5__law_layout ?h1__law_is_number ?h3__law_is_number ?h4__law_is_number ?h5__law_is_number ?h1__law_fits ?h3__law_fits ?h4__law_fits ?h5__law_fits ?h1__law_told ?h3__law_told ?h4__law_told ?h5__law_told ?h1__law_any_layout ?h3__law_any_layout ?h4__law_any_layout ?h5__law_any_layout ?h1__law_same ?h3__law_same ?h4__law_same ?h5__law_same ?h1__law_parts ?h3__law_parts ?h4__law_parts ?h5__law_parts ?h1__law_refused ?h3__law_refused ?h4__law_refused ?h5__law_refused ?h1__law_places ?h3__law_places ?h4__law_places ?h5__law_places ?h1__law_asked ?h3__law_asked ?h4__law_asked ?h5__law_asked ?h1_law ?h3_law ?h4_law ?h5_law
    (case g_InvalidFormat => k_is)
    (case xc_InvalidFormat => k_exc)
    (case kp_InvalidFormat => k_is)
    (case be_InvalidFormat => k_is)
    (case ty_InvalidFormat => k_is)
    (case g_InvalidImage => k_is)
    (case g_Layout => k_is)
    (case p1_Layout => k_is)
    (case p2_Layout => k_is)
    (case p3_Layout => k_is)
    (case p4_Layout => k_is)
    (case p5_Layout => k_is)
    (case p6_Layout => k_is)
    (case g_OutOfRange => k_is)
    (case g_SegmentError => k_is)
    (case n_Layout_block_size => k_is)
    (case n_Layout_device_blocks => k_is)
    (case n_Layout_fan => k_is)
    (case n_Layout_last_id => k_is)
    (case n_Layout_limit => k_is)
    (case n_Layout_payload => k_is)
    (case n_Layout_region_blocks => k_is)
    (case n_Layout_segment_blocks => k_is)
    (case n_Layout_segments => k_is)
    (case k_HEAD_OCTETS => k_is)
    (case k_LEAST_BLOCKS => k_is)
    (case k_LEAST_SEGMENTS => k_is)
    (case k_MOST_BLOCKS => k_is)
    (case k_MOST_SEGMENTS => k_is)
    (case k_SLOTS => k_is)
    (case z_ValueError => k_is)
    (case z_bool => k_is)
    (case z_int => k_is)
    (case z_isinstance => k_is)
    (case z_len => k_is)
    (case z_range => k_is)
    (case ec0 => k_is)
    (case ec1 => k_is)
    (case ec2 => k_is)
    (case ec3 => k_is)
    (case ec4 => k_is)
    (case ec5 => k_is)
    (case ec6 => k_is)
    (case ec7 => k_is)
    (case sv_V => k_is)
    (case nq_OutOfRange => first | rfl | decide)
    (case ic_OutOfRange => k_is)
    (case tp_OutOfRange => k_is)
    (case sb_OutOfRange => k_is)
    (case nq_InvalidImage => first | rfl | decide)
    (case ic_InvalidImage => k_is)
    (case tp_InvalidImage => k_is)
    (case sb_InvalidImage => k_is)
    (case bs_SegmentError => k_is)
    (case hd_SegmentError => k_is)
    (case tp_SegmentError => k_is)
    (case sb_SegmentError => k_is)
    (case h1_parts_of => k_is)
    (case h3_parts_of => k_is)
    (case h4_parts_of => k_is)
    (case h5_parts_of => k_is)
    (case h1_Layout___init__ => k_is)
    (case h2_Layout___init__ => k_is)
    (case h3_Layout___init__ => k_is)
    (case h4_Layout___init__ => k_is)
    (case h5_Layout___init__ => k_is)
    (case h1_address_at => k_is)
    (case h3_address_at => k_is)
    (case h4_address_at => k_is)
    (case h5_address_at => k_is)
    (case h1_segment_of => k_is)
    (case h3_segment_of => k_is)
    (case h4_segment_of => k_is)
    (case h5_segment_of => k_is)
    (case h1_place_of => k_is)
    (case h3_place_of => k_is)
    (case h4_place_of => k_is)
    (case h5_place_of => k_is)
    (case h1_region_start => k_is)
    (case h3_region_start => k_is)
    (case h4_region_start => k_is)
    (case h5_region_start => k_is)
    (case h1__law_number => k_is)
    (case h3__law_number => k_is)
    (case h4__law_number => k_is)
    (case h5__law_number => k_is)
    (case h1__law_take => k_is)
    (case h3__law_take => k_is)
    (case h4__law_take => k_is)
    (case h5__law_take => k_is)
    (case h1__law_layout => k_is)
    (case h3__law_layout => k_is)
    (case h4__law_layout => k_is)
    (case h5__law_layout => k_is)
    (case h1__law_is_number => k_is)
    (case h3__law_is_number => k_is)
    (case h4__law_is_number => k_is)
    (case h5__law_is_number => k_is)
    (case h1__law_fits => k_is)
    (case h3__law_fits => k_is)
    (case h4__law_fits => k_is)
    (case h5__law_fits => k_is)
    (case h1__law_told => k_is)
    (case h3__law_told => k_is)
    (case h4__law_told => k_is)
    (case h5__law_told => k_is)
    (case h1__law_any_layout => k_is)
    (case h3__law_any_layout => k_is)
    (case h4__law_any_layout => k_is)
    (case h5__law_any_layout => k_is)
    (case h1__law_same => k_is)
    (case h3__law_same => k_is)
    (case h4__law_same => k_is)
    (case h5__law_same => k_is)
    (case h1__law_parts => k_is)
    (case h3__law_parts => k_is)
    (case h4__law_parts => k_is)
    (case h5__law_parts => k_is)
    (case h1__law_refused => k_is)
    (case h3__law_refused => k_is)
    (case h4__law_refused => k_is)
    (case h5__law_refused => k_is)
    (case h1__law_places => k_is)
    (case h3__law_places => k_is)
    (case h4__law_places => k_is)
    (case h5__law_places => k_is)
    (case h1__law_asked => k_is)
    (case h3__law_asked => k_is)
    (case h4__law_asked => k_is)
    (case h5__law_asked => k_is)
    (case h1_law => k_is)
    (case h3_law => k_is)
    (case h4_law => k_is)
    (case h5_law => k_is)
