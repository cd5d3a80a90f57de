import PyProof.Rows.All
import Wide.All
import OpenK.AllK
import Wide.FinOn
import HandS.ForMost
import HandS.NoneIn
import HandS.IsInst
import HandS.Wide
import HandS.Style
import HandS.SortInts
import HandS.Conv
import HandS.Walk
import HandS.More
import HandS.Rev
import HandS.RevTup
import HandS.MakeKw
import HandS.Property
import HandS.TryOnly
import HandS.ExcIs
import HandS.ExcOwn
import HandS.TupMul
import HandS.TupAny
import HandS.AnyAll
import HandS.Defaults
import HandS.Dict
import HandS.EndOwn
import PySem.Challenge.RW_segmentfs_k46_texts_as_octets
set_option Elab.async false
set_option linter.all false
set_option maxRecDepth 100000
set_option maxHeartbeats 4000000
/-! ### prelude: the state of a walk (Hs), values (Val), tests (Ans), statements -/
namespace G
open PySem PySem.Spec PyProof.Rows L2
/-- all of B but F stands as it stood; the cells L are the walk's own (new since B, or of F) -/
structure Hs (F : List Addr) (B : Hp) (L : List (Addr × HO)) (H : Hp) : Prop where
  fr : ∀ a o, B a = some o → a ∉ F → H a = some o
  al : ∀ a, H a = none → B a = none
  own : ∀ p ∈ L, H p.1 = some p.2
  fs : ∀ p ∈ L, p.1 ∈ F ∨ B p.1 = none
  nd : (L.map (·.1)).Nodup
section
variable {F : List Addr} {B H H' : Hp} {L L' : List (Addr × HO)} {p : Addr} {o o' : HO}
theorem Hs.start (H : Hp) : Hs [] H [] H := ⟨fun _ _ h _ => h, fun _ h => h, fun _ h => (List.not_mem_nil h).elim, fun _ h => (List.not_mem_nil h).elim, List.nodup_nil⟩
theorem Hs.startF (hL : ∀ q ∈ L, H q.1 = some q.2 ∧ q.1 ∈ F) (nd : (L.map (·.1)).Nodup) : Hs F H L H :=
  ⟨fun _ _ h _ => h, fun _ h => h, fun q h => (hL q h).1, fun q h => .inl (hL q h).2, nd⟩
theorem Hs.mem (s : Hs F B L H) (i : Nat) (h : L[i]? = some (p, o)) : H p = some o := s.own (p, o) (List.mem_of_getElem? h)
theorem Hs.frs (s : Hs F B L H) (i : Nat) (h : L[i]? = some (p, o)) (hf : p ∉ F) : B p = none := (s.fs (p, o) (List.mem_of_getElem? h)).resolve_left hf
theorem Hs.new (s : Hs F B L H) (np : H p = none) (o : HO) : Hs F B ((p, o) :: L) (upd H p o) := by
  have ne : ∀ a u, H a = some u → a ≠ p := fun a u e z => by rw [z, np] at e; cases e
  refine ⟨fun a u e hf => ?_, fun a e => ?_, fun q hq => ?_, fun q hq => ?_, ?_⟩
  · have h := s.fr a u e hf
    rw [upd_ne (ne a u h)]; exact h
  · by_cases z : a = p
    · rw [z, upd_same] at e; cases e
    · rw [upd_ne z] at e; exact s.al a e
  · rcases List.mem_cons.mp hq with e | hq
    · rw [e]; exact upd_same
    · have h := s.own q hq
      rw [upd_ne (ne _ _ h)]; exact h
  · rcases List.mem_cons.mp hq with e | hq
    · rw [e]; exact .inr (s.al p np)
    · exact s.fs q hq
  · rw [List.map_cons, List.nodup_cons]
    refine ⟨fun hm => ?_, s.nd⟩
    obtain ⟨q, hq, e⟩ := List.mem_map.mp hm
    exact ne _ _ (s.own q hq) e
theorem map_set_fst (L : List (Addr × HO)) (i : Nat) (h : L[i]? = some (p, o)) (o' : HO) : (L.set i (p, o')).map (·.1) = L.map (·.1) := by
  refine List.ext_getElem? fun j => ?_
  rw [List.getElem?_map, List.getElem?_map]
  by_cases e : i = j
  · subst e
    rw [List.getElem?_set_self (List.getElem?_eq_some_iff.mp h).1, h]
    rfl
  · rw [List.getElem?_set_ne e]
theorem nodup_at {α : Type} {l : List α} (hN : l.Nodup) {i j : Nat} {x : α} (a : l[i]? = some x) (b : l[j]? = some x) : i = j := by
  have ha := (List.getElem?_eq_some_iff.mp a)
  have hb := (List.getElem?_eq_some_iff.mp b)
  exact (List.getElem_inj hN).mp (ha.2.trans hb.2.symm)
theorem Hs.wr (s : Hs F B L H) (i : Nat) (o' : HO) (h : L[i]? = some (p, o)) : Hs F B (L.set i (p, o')) (upd H p o') := by
  have hp := s.mem i h
  refine ⟨fun a u e hf => ?_, fun a e => ?_, fun q hq => ?_, fun q hq => ?_, ?_⟩
  · have z : a ≠ p := fun z => by
      rw [z] at e hf
      rcases s.fs (p, o) (List.mem_of_getElem? h) with y | y
      · exact hf y
      · rw [show (p, o).1 = p from rfl, e] at y; cases y
    rw [upd_ne z]; exact s.fr a u e hf
  · by_cases z : a = p
    · rw [z, upd_same] at e; cases e
    · rw [upd_ne z] at e; exact s.al a e
  · obtain ⟨j, hj⟩ := List.mem_iff_getElem?.mp hq
    by_cases e : i = j
    · subst e
      rw [List.getElem?_set_self (List.getElem?_eq_some_iff.mp h).1] at hj
      cases hj; exact upd_same
    · rw [List.getElem?_set_ne e] at hj
      have z : q.1 ≠ p := fun z => e (nodup_at s.nd (by rw [List.getElem?_map, h]; rfl) (by rw [List.getElem?_map, hj, ← z]; rfl))
      rw [upd_ne z]; exact s.own q (List.mem_of_getElem? hj)
  · have hm : q.1 ∈ (L.set i (p, o')).map (·.1) := List.mem_map.mpr ⟨q, hq, rfl⟩
    rw [map_set_fst L i h] at hm
    obtain ⟨r, hr, e⟩ := List.mem_map.mp hm
    rw [← e]; exact s.fs r hr
  · rw [map_set_fst L i h]; exact s.nd
theorem Hs.ext (s : Hs F B L H) (e : Same H H') : Hs F B L H' :=
  ⟨fun a o h hf => e a o (s.fr a o h hf), fun a h => s.al a (e.free h), fun q hq => e _ _ (s.own q hq), s.fs, s.nd⟩
theorem Hs.cg (e : L' = L) (s : Hs F B L H) : Hs F B L' H := e ▸ s
theorem Hs.top (s : Hs F B ((p, o) :: L) H) (e : o = o') : Hs F B ((p, o') :: L) H := e ▸ s
theorem Hs.ret (s : Hs F B L H) (e : Same H H') (np : H p = none) (hp : H' p = some o) : Hs F B ((p, o) :: L) H' := by
  refine ⟨fun a o h hf => e a o (s.fr a o h hf), fun a h => s.al a (e.free h), fun q hq => ?_, fun q hq => ?_, ?_⟩
  · rcases List.mem_cons.mp hq with z | hq
    · rw [z]; exact hp
    · exact e _ _ (s.own q hq)
  · rcases List.mem_cons.mp hq with z | hq
    · rw [z]; exact .inr (s.al p np)
    · exact s.fs q hq
  · rw [List.map_cons, List.nodup_cons]
    refine ⟨fun hm => ?_, s.nd⟩
    obtain ⟨q, hq, z⟩ := List.mem_map.mp hm
    have h := s.own q hq
    rw [show q.1 = p from z, np] at h; cases h
theorem Hs.pick (s : Hs F B L H) (is : List Nat) (hn : is.Nodup) (h : is.map (fun i => L[i]?) = L'.map some) : Hs F B L' H := by
  have mem : ∀ q ∈ L', q ∈ L := fun q hq => by
    have : some q ∈ is.map (fun i => L[i]?) := by rw [h]; exact List.mem_map.mpr ⟨q, hq, rfl⟩
    obtain ⟨i, _, e⟩ := List.mem_map.mp this
    exact List.mem_of_getElem? e
  refine ⟨s.fr, s.al, fun q hq => s.own q (mem q hq), fun q hq => s.fs q (mem q hq), ?_⟩
  rw [List.nodup_iff_pairwise_ne, List.pairwise_iff_getElem]
  intro i j hi hj hij e
  rw [List.length_map] at hi hj
  have hl : is.length = L'.length := by have := congrArg List.length h; simpa using this
  have gi : ∀ k (hk : k < L'.length), L[is[k]'(by omega)]? = some L'[k] := fun k hk => by
    have := congrArg (fun l => l[k]?) h
    simp only [List.getElem?_map] at this
    rw [List.getElem?_eq_getElem (show k < is.length by omega), List.getElem?_eq_getElem hk] at this
    exact Option.some.inj this
  rw [List.getElem_map, List.getElem_map] at e
  have e2 : is[i]'(by omega) = is[j]'(by omega) := nodup_at s.nd (by rw [List.getElem?_map, gi i hi]; rfl) (by rw [List.getElem?_map, gi j hj]; exact congrArg some e.symm)
  have := (List.getElem_inj hn).mp e2
  omega
/-- behind a call that keeps all but G's cells; N: what it made or changed; rest: the cells that it left alone -/
theorem Hs.call {G : List Addr} {N R : List (Addr × HO)} (s : Hs F B L H) (r : Hs G H N H') (is : List Nat) (hG : ∀ a ∈ G, a ∈ L.map (·.1)) (hn : is.Nodup) (h : is.map (fun i => L[i]?) = R.map some) (hR : ∀ q ∈ R, q.1 ∉ G) : Hs F B (N ++ R) H' := by
  have sR := s.pick is hn h
  have gL : ∀ a ∈ G, a ∈ F ∨ B a = none := fun a ha => by
    obtain ⟨q, hq, e⟩ := List.mem_map.mp (hG a ha)
    rw [← e]; exact s.fs q hq
  refine ⟨fun a o e hf => ?_, fun a e => s.al a (r.al a e), fun q hq => ?_, fun q hq => ?_, ?_⟩
  · refine r.fr a o (s.fr a o e hf) fun ha => ?_
    rcases gL a ha with z | z
    · exact hf z
    · rw [e] at z; cases z
  · rcases List.mem_append.mp hq with z | z
    · exact r.own q z
    · exact r.fr _ _ (sR.own q z) (hR q z)
  · rcases List.mem_append.mp hq with z | z
    · rcases r.fs q z with y | y
      · exact gL _ y
      · exact .inr (s.al _ y)
    · exact sR.fs q z
  · rw [List.map_append, List.nodup_append]
    refine ⟨r.nd, sR.nd, fun a ha b hb e => ?_⟩
    obtain ⟨q, hq, e1⟩ := List.mem_map.mp ha
    obtain ⟨q2, hq2, e2⟩ := List.mem_map.mp hb
    have e3 : q.1 = q2.1 := by rw [show q.1 = a from e1, show q2.1 = b from e2, e]
    rcases r.fs q hq with y | y
    · exact hR q2 hq2 (e3 ▸ y)
    · have := sR.own q2 hq2
      rw [← e3, y] at this; cases this
theorem Hs.call0 {N : List (Addr × HO)} (s : Hs F B L H) (r : Hs [] H N H') : Hs F B (N ++ L) H' := by
  have e : (List.range L.length).map (fun i => L[i]?) = L.map some := by
    refine List.ext_getElem? fun j => ?_
    rw [List.getElem?_map, List.getElem?_map]
    by_cases h : j < L.length
    · rw [List.getElem?_range h, List.getElem?_eq_getElem h]
      show some L[j]? = some (some L[j])
      rw [List.getElem?_eq_getElem h]
    · rw [List.getElem?_eq_none (by rw [List.length_range]; omega), List.getElem?_eq_none (by omega)]; rfl
  exact s.call r (List.range L.length) (fun _ h => (List.not_mem_nil h).elim) List.nodup_range e fun _ _ => List.not_mem_nil
theorem Hs.ne {q : Addr} (s : Hs F B L H) (i j : Nat) (hi : L[i]? = some (p, o)) (hj : L[j]? = some (q, o')) (h : i ≠ j) : p ≠ q := fun e =>
  h (nodup_at s.nd (by rw [List.getElem?_map, hi]; rfl) (by rw [List.getElem?_map, hj, e]; rfl))
theorem Hs.same (s : Hs [] B L H) : Same B H := fun a o h => s.fr a o h (List.not_mem_nil)
theorem Hs.sq {K : PySem.W.Frag} {a : Addr} {xs : List V} (s : Hs [] B L H) (h : SqL K B a xs) : SqL K H a xs := s.same.seq h
theorem Hs.sqt {K : PySem.W.Frag} {a : Addr} {xs : List V} (s : Hs [] B L H) (h : SqT K B a xs) : SqT K H a xs := by
  rcases h with h | h
  · rcases h with h | ⟨o, h⟩
    · exact .inl (.inl (s.same a _ h))
    · exact .inl (.inr ⟨o, s.same a _ h⟩)
  · exact .inr h
theorem Hs.l {K : PySem.W.Frag} {xs : List V} (s : Hs F B L H) (i : Nat) (h : L[i]? = some (p, .lst xs)) : SqL K H p xs := SqL.of (s.mem i h)
theorem Hs.t {K : PySem.W.Frag} {xs : List V} (s : Hs F B L H) (i : Nat) (h : L[i]? = some (p, .tup xs)) : SqT K H p xs := SqT.of (s.mem i h)
end
/-! ### ints of a list by an index -/
def gi (ns : List Int) (i : Int) : Int := ns.getD i.toNat 0
theorem at_gi {ns : List Int} {i : Int} (h0 : 0 ≤ i) (h1 : i < (ns.length : Int)) : atI (ns.map V.int) i = some (V.int (gi ns i)) := by
  obtain ⟨n, rfl⟩ := Int.eq_ofNat_of_zero_le h0
  refine atI_nat ?_
  have hn : n < ns.length := by omega
  rw [List.getElem?_map, List.getElem?_eq_getElem hn]
  show some (V.int ns[n]) = some (V.int (ns.getD n 0))
  rw [List.getD_eq_getElem?_getD, List.getElem?_eq_getElem hn]; rfl
theorem gi_mem {ns : List Int} {i : Int} (h0 : 0 ≤ i) (h1 : i < (ns.length : Int)) : gi ns i ∈ ns := by
  obtain ⟨n, rfl⟩ := Int.eq_ofNat_of_zero_le h0
  have hn : n < ns.length := by omega
  show ns.getD n 0 ∈ ns
  rw [List.getD_eq_getElem?_getD, List.getElem?_eq_getElem hn]
  exact List.getElem_mem hn
/-! ### values and tests -/
def Val (te : TE) (σ : L2.St) (H : Hp) (v : V) : Prop := ∀ Q : VK, Q v H → te σ H Q
def VA (ta : TA) (σ : L2.St) (H : Hp) (vs : List V) : Prop := ∀ Q : List V → Hp → Prop, Q vs H → ta σ H Q
def Ans (t : TT) (σ : L2.St) (H : Hp) (p : Prop) [Decidable p] : Prop := ∀ Q : Bool → Hp → Prop, Q (decide p) H → t σ H Q
section
variable {K : PySem.W.Frag} {σ σ' : L2.St} {H : Hp} {ta tb te tc : TE} {t u : TT} {x y z v w : V} {r : R2} {i j : Int}
theorem vv (n : Nat) (h : σ[n]? = some (some v)) : Val (tVar n) σ H v := fun _ q => ⟨v, h, q⟩
theorem vc : Val (tC v) σ H v := fun _ q => q
theorem vis (h : Val te σ H v) (e : v = w) : Val te σ H w := e ▸ h
theorem v0 {g : Int → Int → V} (ha : Val ta σ H (.int i)) (hb : Val tb σ H (.int j)) : Val (tOp (rI0 g) ta tb) σ H (g i j) := fun Q q => ha _ (hb _ ⟨i, j, rfl, rfl, q⟩)
theorem v1 {C : Int → Int → Prop} {g : Int → Int → V} (hc : C i j) (ha : Val ta σ H (.int i)) (hb : Val tb σ H (.int j)) : Val (tOp (rI C g) ta tb) σ H (g i j) := fun Q q => ha _ (hb _ ⟨i, j, rfl, rfl, hc, q⟩)
theorem vun {g : Int → V} (ha : Val ta σ H (.int i)) : Val (tUn (rU g) ta) σ H (g i) := fun Q q => ha _ ⟨i, rfl, q⟩
abbrev rInt1 : List V → Hp → VK → Prop := fun xs H Q => (∃ i, xs = [.int i] ∧ Q (.int i) H) ∨ ∃ k, xs = [.bl k] ∧ Q (.int (if k then 1 else 0)) H
theorem vint (ha : Val ta σ H (.int i)) : Val (tCB rInt1 (tCons ta tNil)) σ H (.int i) := fun Q q => ha _ (.inl ⟨i, rfl, q⟩)
theorem vintb {b : Bool} (ha : Val ta σ H (.bl b)) : Val (tCB rInt1 (tCons ta tNil)) σ H (.int (if b then 1 else 0)) := fun Q q => ha _ (.inr ⟨b, rfl, q⟩)
theorem vixL {p : Addr} {xs : List V} (ha : Val ta σ H (.ref p)) (hb : Val tb σ H (.int i)) (hs : SqL K H p xs) (h : atI xs i = some v) : Val (tOp (rIxL K) ta tb) σ H v := fun Q q => ha _ (hb _ ⟨p, xs, i, v, rfl, rfl, hs, h, q⟩)
theorem vixT {p : Addr} {xs : List V} (ha : Val ta σ H (.ref p)) (hb : Val tb σ H (.int i)) (hs : SqT K H p xs) (h : atI xs i = some v) : Val (tOp (rIxT K) ta tb) σ H v := fun Q q => ha _ (hb _ ⟨p, xs, i, v, rfl, rfl, hs, h, q⟩)
abbrev rLenS (K : PySem.W.Frag) : List V → Hp → VK → Prop := fun xs H Q => ∃ p ys, xs = [.ref p] ∧ (SqL K H p ys ∨ SqT K H p ys) ∧ Q (.int ys.length) H
theorem vlenL {p : Addr} {xs : List V} (ha : Val ta σ H (.ref p)) (hs : SqL K H p xs) : Val (tCB (rLenS K) (tCons ta tNil)) σ H (.int xs.length) := fun Q q => ha _ ⟨p, xs, rfl, .inl hs, q⟩
theorem vlenT {p : Addr} {xs : List V} (ha : Val ta σ H (.ref p)) (hs : SqT K H p xs) : Val (tCB (rLenS K) (tCons ta tNil)) σ H (.int xs.length) := fun Q q => ha _ ⟨p, xs, rfl, .inr hs, q⟩
theorem vfld {a C dx : Addr} {fs : List (Str × V)} {f : Str} (h : Val ta σ H (.ref a)) (ho : H a = some (.ins C dx fs)) (hc : Cls K C) (hn : NoAttr K C f) (hl : fs.lookup f = some v) : Val (tFld K ta f) σ H v := fun Q q => h _ ⟨a, C, dx, fs, v, rfl, ho, hc, hn, hl, q⟩
theorem vif {p : Prop} [Decidable p] (h : Ans t σ H p) (h1 : p → Val ta σ H v) (h2 : ¬ p → Val tb σ H v) : Val (tIf t ta tb) σ H v := fun Q q => h _ (by
  by_cases hp : p
  · rw [decide_eq_true hp]; exact h1 hp Q q
  · rw [decide_eq_false hp]; exact h2 hp Q q)
theorem vtest {p : Prop} [Decidable p] (h : Val te σ H (.bl (decide p))) : Ans (tTest te) σ H p := fun Q q => h _ ⟨_, rfl, q⟩
theorem vB {p : Prop} [Decidable p] (h : Val te σ H (.bl (decide p))) : Ans (tB te) σ H p := fun Q q => h _ ⟨_, rfl, q⟩
theorem vbool {b : Bool} (h : Val te σ H (.bl b)) : Val te σ H (.bl (decide (b = true))) := by
  rw [show decide (b = true) = b from by cases b <;> rfl]; exact h
theorem dec_eq_V {α : Type} [DecidableEq α] (f : α → V) (hf : ∀ a b, f a = f b → a = b) (a b : α) : decide (f a = f b) = decide (a = b) := by
  by_cases h : a = b
  · rw [decide_eq_true h, decide_eq_true (congrArg f h)]
  · rw [decide_eq_false h, decide_eq_false (fun e => h (hf _ _ e))]
theorem dec_not (p : Prop) [Decidable p] : (!decide p) = decide (¬ p) := by
  by_cases h : p
  · rw [decide_eq_true h, decide_eq_false (not_not_intro h)]; rfl
  · rw [decide_eq_false h, decide_eq_true h]; rfl
theorem veq (ha : Val ta σ H (.int i)) (hb : Val tb σ H (.int j)) : Val (tOp rEq ta tb) σ H (.bl (decide (i = j))) := fun Q q => ha _ (hb _ ⟨rfl, by rw [dec_eq_V V.int (fun _ _ e => V.int.inj e)]; exact q⟩)
theorem vne (ha : Val ta σ H (.int i)) (hb : Val tb σ H (.int j)) : Val (tOp rNe ta tb) σ H (.bl (decide (i ≠ j))) := fun Q q => ha _ (hb _ ⟨rfl, by rw [dec_eq_V V.int (fun _ _ e => V.int.inj e), dec_not]; exact q⟩)
theorem veqb {a b : Bool} (ha : Val ta σ H (.bl a)) (hb : Val tb σ H (.bl b)) : Val (tOp rEq ta tb) σ H (.bl (decide (a = b))) := fun Q q => ha _ (hb _ ⟨rfl, by rw [dec_eq_V V.bl (fun _ _ e => V.bl.inj e)]; exact q⟩)
theorem vneb {a b : Bool} (ha : Val ta σ H (.bl a)) (hb : Val tb σ H (.bl b)) : Val (tOp rNe ta tb) σ H (.bl (decide (a ≠ b))) := fun Q q => ha _ (hb _ ⟨rfl, by rw [dec_eq_V V.bl (fun _ _ e => V.bl.inj e), dec_not]; exact q⟩)
theorem veqs {a b : Str} (ha : Val ta σ H (.str a)) (hb : Val tb σ H (.str b)) : Val (tOp rEq ta tb) σ H (.bl (decide (a = b))) := fun Q q => ha _ (hb _ ⟨rfl, by rw [dec_eq_V V.str (fun _ _ e => V.str.inj e)]; exact q⟩)
theorem vnes {a b : Str} (ha : Val ta σ H (.str a)) (hb : Val tb σ H (.str b)) : Val (tOp rNe ta tb) σ H (.bl (decide (a ≠ b))) := fun Q q => ha _ (hb _ ⟨rfl, by rw [dec_eq_V V.str (fun _ _ e => V.str.inj e), dec_not]; exact q⟩)
theorem veqv (hs : scal x y = true) (ha : Val ta σ H x) (hb : Val tb σ H y) : Val (tOp rEq ta tb) σ H (.bl (decide (x = y))) := fun Q q => ha _ (hb _ ⟨hs, q⟩)
theorem vnev (hs : scal x y = true) (ha : Val ta σ H x) (hb : Val tb σ H y) : Val (tOp rNe ta tb) σ H (.bl (decide (x ≠ y))) := fun Q q => ha _ (hb _ ⟨hs, by rw [dec_not]; exact q⟩)
abbrev rIsN : R2 := fun x y H Q => y = .non ∧ Q (.bl (decide (x = .non))) H
abbrev rNotN : R2 := fun x y H Q => y = .non ∧ Q (.bl (!decide (x = .non))) H
theorem visN (ha : Val ta σ H x) : Val (tOp rIsN ta (tC .non)) σ H (.bl (decide (x = .non))) := fun Q q => ha _ ⟨rfl, q⟩
theorem vnotN (ha : Val ta σ H x) : Val (tOp rNotN ta (tC .non)) σ H (.bl (decide (x ≠ .non))) := fun Q q => ha _ ⟨rfl, by rw [dec_not]; exact q⟩
theorem aand {p q : Prop} [Decidable p] [Decidable q] (h1 : Ans t σ H p) (h2 : p → Ans u σ H q) : Ans (tAnd t u) σ H (p ∧ q) := fun Q k => h1 _ (by
  by_cases hp : p
  · rw [decide_eq_true hp]
    refine h2 hp Q ?_
    rw [show decide q = decide (p ∧ q) from by simp [hp]]; exact k
  · rw [decide_eq_false hp]
    rw [show decide (p ∧ q) = false from by simp [hp]] at k; exact k)
theorem aor {p q : Prop} [Decidable p] [Decidable q] (h1 : Ans t σ H p) (h2 : ¬ p → Ans u σ H q) : Ans (tOr t u) σ H (p ∨ q) := fun Q k => h1 _ (by
  by_cases hp : p
  · rw [decide_eq_true hp]
    rw [show decide (p ∨ q) = true from by simp [hp]] at k; exact k
  · rw [decide_eq_false hp]
    refine h2 hp Q ?_
    rw [show decide q = decide (p ∨ q) from by simp [hp]]; exact k)
theorem anot {p : Prop} [Decidable p] (h : Ans t σ H p) : Ans (tNot t) σ H (¬ p) := fun Q k => h _ (by rw [dec_not]; exact k)
theorem ais {p q : Prop} [Decidable p] [Decidable q] (h : Ans t σ H p) (e : p ↔ q) : Ans t σ H q := fun Q k => h Q (by rw [show decide p = decide q from by simp [e]]; exact k)
theorem vchain {p q : Prop} [Decidable p] [Decidable q] {r' : R2} (ha : Val ta σ H x) (hb : Val tb σ H y) (hc : Val tc σ H z) (h1 : ∀ Q : VK, Q (.bl (decide p)) H → r x y H Q) (h2 : ∀ Q : VK, Q (.bl (decide q)) H → r' y z H Q) :
    Val (tChain r r' ta tb tc) σ H (.bl (decide (p ∧ q))) := fun Q k => ha _ (hb _ (h1 _ ⟨_, rfl, by
  by_cases hp : p
  · rw [decide_eq_true hp]
    refine hc _ (h2 Q ?_)
    rw [show decide q = decide (p ∧ q) from by simp [hp]]; exact k
  · rw [decide_eq_false hp]
    rw [show decide (p ∧ q) = false from by simp [hp]] at k; exact k⟩))
theorem r0 {g : Int → Int → V} : ∀ Q : VK, Q (g i j) H → rI0 g (.int i) (.int j) H Q := fun _ q => ⟨i, j, rfl, rfl, q⟩
theorem va0 : VA tNil σ H [] := fun _ q => q
theorem va {tr : TA} {vs : List V} (h : Val ta σ H x) (hr : VA tr σ H vs) : VA (tCons ta tr) σ H (x :: vs) := fun _ q => h _ (hr _ q)
theorem vcall {sp : Sp} {dvs vs : List V} {E : XK} {tr : TA} (ha : VA tr σ H vs) (k : ∀ Q : VK, Q v H → sp (vs ++ dvs) H Q E) : Val (tCall sp dvs E tr) σ H v := fun Q q => ha _ (k Q q)
theorem c_call {sp : Sp} {dvs vs : List V} {E : XK} {tr : TA} {Q : VK} (ha : VA tr σ H vs) (k : sp (vs ++ dvs) H Q E) : tCall sp dvs E tr σ H Q := ha _ k
abbrev rIsiK (K : PySem.W.Frag) := rIsi K
theorem visi {c : V} {cu tu : Value} {b : Bool} (ha : Val ta σ H x) (hb : Val tb σ H c) (hc : ClsV c cu) (hx : TyX K H x tu) (hk : PySem.W.kitOne K tu cu = some b) : Val (tCB (rIsi K) (tCons ta (tCons tb tNil))) σ H (.bl b) := fun Q q => ha _ (hb _ ⟨x, c, tu, cu, b, rfl, hc, hx, hk, q⟩)
/-! ### statements -/
variable {D : Ends} {tz tu tw : TS}
theorem s_set {n : Nat} (σ' : L2.St) (h : Val te σ H v) (e : σ.set n (some v) = σ') (k : tz D σ' H) : tSeq (tAsg te (gName n)) tz D σ H := h _ (by
  show tz D (σ.set n (some v)) H
  rw [e]; exact k)
def kSet (tz : TS) (D : Ends) (σ : L2.St) (n : Nat) : VK := fun v H1 => tz D (σ.set n (some v)) H1
def kDrop (tz : TS) (D : Ends) (σ : L2.St) : VK := fun _ H1 => tz D σ H1
theorem c_set {n : Nat} (k : te σ H (kSet tz D σ n)) : tSeq (tAsg te (gName n)) tz D σ H := k
theorem k_set {n : Nat} (σ' : L2.St) (e : σ.set n (some v) = σ') (k : tz D σ' H) : kSet tz D σ n v H := by
  show tz D (σ.set n (some v)) H
  rw [e]; exact k
theorem k_setv {n : Nat} (w : V) (e : v = w) (k : kSet tz D σ n w H) : kSet tz D σ n v H := e ▸ k
theorem k_drop (k : tz D σ H) : kDrop tz D σ v H := k
theorem c_setv {n : Nat} (w : V) (e : v = w) (k : tz D (σ.set n (some w)) H) : tz D (σ.set n (some v)) H := e ▸ k
theorem c_sig (σ' : L2.St) (e : σ = σ') (k : tz D σ' H) : tz D σ H := e ▸ k
theorem c_op {r : R2} {Q : VK} (k : ta σ H fun x H1 => tb σ H1 fun y H2 => r x y H2 Q) : tOp r ta tb σ H Q := k
theorem s_ret (h : Val te σ H v) (k : D.rt v H) : tSeq (tRet te) tz D σ H := h _ k
theorem c_ret (k : te σ H D.rt) : tSeq (tRet te) tz D σ H := k
theorem s_drop (h : Val te σ H v) (k : tz D σ H) : tSeq (tDrop te) tz D σ H := h _ k
theorem c_drop (k : te σ H (kDrop tz D σ)) : tSeq (tDrop te) tz D σ H := k
theorem s_nx (k : D.nx σ H) : tNext D σ H := k
theorem s_nxu {N C Z : L2.St → Hp → Prop} (k : N σ H) : tNext { D with nx := N, ct := C, bk := Z } σ H := k
theorem s_nxs (k : tz D σ H) : tNext { D with nx := tz D } σ H := k
theorem s_if {p : Prop} [Decidable p] (h : Ans t σ H p) (h1 : p → tu { D with nx := tz D } σ H) (h2 : ¬ p → tw { D with nx := tz D } σ H) : tSeq (tIfS t tu tw) tz D σ H := h _ (by
  by_cases hp : p
  · rw [decide_eq_true hp]; exact h1 hp
  · rw [decide_eq_false hp]; exact h2 hp)
theorem s_ifM {p : Prop} [Decidable p] (M : L2.St → Hp → Prop) (h : Ans t σ H p) (h1 : p → tu { D with nx := M } σ H) (h2 : ¬ p → tw { D with nx := M } σ H) (hM : ∀ s G, M s G → tz D s G)
    (mono : ∀ (N : L2.St → Hp → Prop), (∀ s G, M s G → N s G) → (tu { D with nx := M } σ H → tu { D with nx := N } σ H) ∧ (tw { D with nx := M } σ H → tw { D with nx := N } σ H)) : tSeq (tIfS t tu tw) tz D σ H := h _ (by
  by_cases hp : p
  · rw [decide_eq_true hp]; exact (mono _ hM).1 (h1 hp)
  · rw [decide_eq_false hp]; exact (mono _ hM).2 (h2 hp))
/-- if c: x = e (no else): the value behind it -/
theorem s_ifset {p : Prop} [Decidable p] {n : Nat} (σ' : L2.St) (v : V) (h : Ans t σ H p) (h1 : p → Val te σ H v) (e : σ.set n (some v) = σ') (h2 : ¬ p → σ = σ') (k : tz D σ' H) : tSeq (tIfS t (tSeq (tAsg te (gName n)) tNext) tNext) tz D σ H :=
  s_if h (fun hp => s_set σ' (h1 hp) e k) (fun hp => by rw [h2 hp]; exact k)
theorem s_aug {n : Nat} (σ' : L2.St) {g : Int → Int → Int} (hx : σ[n]? = some (some (.int i))) (h : Val te σ H (.int j)) (e : σ.set n (some (.int (g i j))) = σ') (k : tz D σ' H) : tSeq (tAug n te (ipI g)) tz D σ H :=
  ⟨.int i, hx, h _ ⟨i, j, rfl, rfl, by
    show tz D (σ.set n (some (.int (g i j)))) H
    rw [e]; exact k⟩⟩
theorem s_forL {a : Addr} {xs : List V} {n : Nat} (h : Val te σ H (.ref a)) (hx : SqL K H a xs) (Pv : Nat → L2.St → Hp → Prop) (h0 : Pv 0 σ H) (hl : ∀ i σ' H', i ≤ xs.length → Pv i σ' H' → SqL K H' a xs)
    (hs : ∀ i x σ' H', xs[i]? = some x → Pv i σ' H' → tu { D with nx := Pv (i + 1), ct := Pv (i + 1), bk := tz D } (σ'.set n (some x)) H') (hd : ∀ σ' H', Pv xs.length σ' H' → tz D σ' H') : tSeq (tFor (iList K te) (gName n) tu) tz D σ H :=
  h _ ⟨a, rfl, ⟨xs, hx⟩, for_list Pv h0 hl hs hd⟩
theorem s_forT {a : Addr} {xs : List V} {n : Nat} (h : Val te σ H (.ref a)) (hx : SqT K H a xs) (Pv : Nat → L2.St → Hp → Prop) (h0 : Pv 0 σ H) (hl : ∀ i σ' H', i ≤ xs.length → Pv i σ' H' → SqT K H' a xs)
    (hs : ∀ i x σ' H', xs[i]? = some x → Pv i σ' H' → tu { D with nx := Pv (i + 1), ct := Pv (i + 1), bk := tz D } (σ'.set n (some x)) H') (hd : ∀ σ' H', Pv xs.length σ' H' → tz D σ' H') : tSeq (tFor (iTup K te) (gName n) tu) tz D σ H :=
  h _ ⟨a, rfl, ⟨xs, hx⟩, for_tup Pv h0 hl hs hd⟩
theorem s_forR1 {tr : TA} {n : Nat} {m : Int} (h : VA tr σ H [.int m]) (hm : -(2 ^ 62) ≤ m ∧ m < 2 ^ 62) (Pv : Nat → L2.St → Hp → Prop) (h0 : Pv 0 σ H)
    (hs : ∀ (i : Nat) σ' H', (i : Int) < m → Pv i σ' H' → tu { D with nx := Pv (i + 1), ct := Pv (i + 1), bk := tz D } (σ'.set n (some (.int (i : Int)))) H') (hd : ∀ σ' H', Pv m.toNat σ' H' → tz D σ' H') : tSeq (tFor (iRng1 tr) (gName n) tu) tz D σ H :=
  h _ ⟨m, rfl, hm.1, hm.2, for_range (lo := 0) (n := m.toNat) Pv h0 (fun i σ' H' hi p => by
    show tu { D with nx := Pv (i + 1), ct := Pv (i + 1), bk := tz D } (σ'.set n (some (.int ((0 : Int) + (i : Int))))) H'
    rw [Int.zero_add]
    exact hs i σ' H' (by omega) p) hd⟩
theorem s_forR2 {tr : TA} {n : Nat} {lo m : Int} (h : VA tr σ H [.int lo, .int m]) (hm : -(2 ^ 62) ≤ lo ∧ lo < 2 ^ 62 ∧ -(2 ^ 62) ≤ m ∧ m < 2 ^ 62) (Pv : Nat → L2.St → Hp → Prop) (h0 : Pv 0 σ H)
    (hs : ∀ (i : Nat) σ' H', lo + (i : Int) < m → Pv i σ' H' → tu { D with nx := Pv (i + 1), ct := Pv (i + 1), bk := tz D } (σ'.set n (some (.int (lo + (i : Int))))) H') (hd : ∀ σ' H', Pv (m - lo).toNat σ' H' → tz D σ' H') : tSeq (tFor (iRng2 tr) (gName n) tu) tz D σ H :=
  h _ ⟨lo, m, rfl, hm, for_range (lo := lo) (n := (m - lo).toNat) Pv h0 (fun i σ' H' hi p => hs i σ' H' (by omega) p) hd⟩
end
/-- a promise's two ends -/
def sz1 {n : Nat} (h : n ≤ 1000000) : n ≤ sizeLine := Nat.le_trans h (by decide)
def sz2 {n : Nat} (h : n < 1000000) : n < sizeLine := Nat.lt_of_lt_of_le h (by decide)
section
variable {K : PySem.W.Frag} {σ σ' : L2.St} {H : Hp} {ta tb te tc : TE} {D : Ends} {tz : TS} {v : V}
theorem c_callx {sp : Sp} {dvs : List V} {E : XK} {t : TA} {Q : VK} (k : t σ H fun vs H1 => sp (vs ++ dvs) H1 Q E) : tCall sp dvs E t σ H Q := k
theorem c_cons {tr : TA} {Q : List V → Hp → Prop} (k : ta σ H fun x H1 => tr σ H1 fun xs H2 => Q (x :: xs) H2) : tCons ta tr σ H Q := k
theorem c_nil {Q : List V → Hp → Prop} (k : Q [] H) : tNil σ H Q := k
theorem c_lst {t : TA} {Q : VK} (k : t σ H fun xs H1 => xs.length ≤ sizeLine ∧ ∀ p, H1 p = none → Q (.ref p) (upd H1 p (.lst xs))) : tLst t σ H Q := k
theorem c_tup {t : TA} {Q : VK} (k : t σ H fun xs H1 => xs.length ≤ sizeLine ∧ ∀ p, H1 p = none → Q (.ref p) (upd H1 p (.tup xs))) : tTup t σ H Q := k
theorem c_cb {r : List V → Hp → VK → Prop} {t : TA} {Q : VK} (k : t σ H fun vs H1 => r vs H1 Q) : tCB r t σ H Q := k
theorem c_asg {g : TG} (k : te σ H fun v H1 => g v σ H1 (tz D)) : tSeq (tAsg te g) tz D σ H := k
theorem c_test {Q : Bool → Hp → Prop} (k : te σ H fun x H' => ∃ b, x = .bl b ∧ Q b H') : tTest te σ H Q := k
theorem s_appI {l : Addr} {xs : List Int} {n : Int} (hl : H l = some (.lst (xs.map V.int))) (ha : Val ta σ H (.ref l)) (h : Val te σ H (.int n)) (hz : xs.length < 1000000) (k : tz D σ (upd H l (.lst ((xs ++ [n]).map V.int)))) :
    tSeq (tDrop (tBM K "list" rAppend ta (tCons te tNil))) tz D σ H := ha _ ⟨Or.inl ⟨rfl, xs.map V.int, SqL.of hl⟩, h _ ⟨l, xs.map V.int, .int n, rfl, rfl, hl, by rw [List.length_map]; exact sz2 hz, by
      show tz D σ (upd H l (.lst (xs.map V.int ++ [V.int n])))
      rw [List.map_append] at k; exact k⟩⟩
theorem s_app {l : Addr} {xs : List V} (hl : H l = some (.lst xs)) (ha : Val ta σ H (.ref l)) (h : Val te σ H v) (hz : xs.length < 1000000) (k : tz D σ (upd H l (.lst (xs ++ [v])))) :
    tSeq (tDrop (tBM K "list" rAppend ta (tCons te tNil))) tz D σ H := ha _ ⟨Or.inl ⟨rfl, xs, SqL.of hl⟩, h _ ⟨l, xs, v, rfl, rfl, hl, sz2 hz, k⟩⟩
theorem ix_nat {n : Nat} {i : Int} (h0 : 0 ≤ i) (h1 : i < (n : Int)) : ixN n i = some i.toNat := by
  unfold ixN
  rw [if_pos h0, if_pos h1]
theorem map_seti (xs : List Int) (j : Nat) (n : Int) : (xs.map V.int).set j (.int n) = (xs.set j n).map V.int := by rw [List.map_set]
theorem s_setI {l : Addr} {xs : List Int} {i n : Int} (hl : H l = some (.lst (xs.map V.int))) (h : Val te σ H (.int n)) (ha : Val ta σ H (.ref l)) (hb : Val tb σ H (.int i)) (h0 : 0 ≤ i) (h1 : i < (xs.length : Int)) (k : tz D σ (upd H l (.lst ((xs.set i.toNat n).map V.int)))) :
    tSeq (tAsg te (gSub ta tb rSetL)) tz D σ H := h _ (ha _ (hb _ ⟨l, xs.map V.int, i, i.toNat, rfl, rfl, hl, ix_nat h0 (by rw [List.length_map]; exact h1), by
      rw [map_seti]; exact k⟩))
theorem s_setL {l : Addr} {xs : List V} {i : Int} (hl : H l = some (.lst xs)) (h : Val te σ H v) (ha : Val ta σ H (.ref l)) (hb : Val tb σ H (.int i)) (h0 : 0 ≤ i) (h1 : i < (xs.length : Int)) (k : tz D σ (upd H l (.lst (xs.set i.toNat v)))) :
    tSeq (tAsg te (gSub ta tb rSetL)) tz D σ H := h _ (ha _ (hb _ ⟨l, xs, i, i.toNat, rfl, rfl, hl, ix_nat h0 h1, k⟩))
end
section
variable {K : PySem.W.Frag} {σ σ' : L2.St} {H : Hp} {ta tb te tc : TE} {t u : TT} {D : Ends} {tz tu tw : TS} {v w : V} {p q : Prop} [Decidable p] [Decidable q]
theorem fin {Q : VK} (k : Q v H) (e : w = v) : Q w H := e ▸ k
theorem map_int_get {xs : List Int} {i : Nat} {x : V} (h : (xs.map V.int)[i]? = some x) : ∃ n, x = V.int n ∧ xs[i]? = some n := by
  rw [List.getElem?_map] at h
  cases e : xs[i]? with
  | none => rw [e] at h; cases h
  | some n => rw [e] at h; exact ⟨n, (Option.some.inj h).symm, rfl⟩
theorem c_ifS (k : t σ H fun b H1 => if b = true then tu { D with nx := tz D } σ H1 else tw { D with nx := tz D } σ H1) : tSeq (tIfS t tu tw) tz D σ H := k
theorem c_ite {A B : Prop} (h1 : p → A) (h2 : ¬ p → B) : if decide p = true then A else B := by
  by_cases hp : p
  · rw [decide_eq_true hp]; exact h1 hp
  · rw [decide_eq_false hp]; exact h2 hp
theorem c_iteB {b : Bool} {A B : Prop} (h1 : b = true → A) (h2 : ¬ b = true → B) : if b = true then A else B := ite2 h1 h2
theorem c_make {C : Addr} {sp : Sp} {dvs : List V} {E : XK} {tr : TA} {Q : VK} (k : tr σ H fun vs H1 => ∀ x dx, H1 x = none → H1 dx = none → dx ≠ x →
  sp (.ref x :: (vs ++ dvs)) (upd (upd H1 dx (.own x)) x (.ins C dx [])) (fun v H2 => v = .non ∧ Q (.ref x) H2) E) : tMake C sp dvs E tr σ H Q := k
theorem upd_none {x dx : Addr} {o : HO} (h : H x = none) (ne : dx ≠ x) : upd H dx o x = none := by rw [upd_ne (Ne.symm ne)]; exact h
theorem Hs.start1 {x : Addr} {o : HO} (h : H x = some o) : Hs [x] H [(x, o)] H :=
  Hs.startF (fun q hq => by rw [List.mem_singleton.mp hq]; exact ⟨h, List.mem_singleton.mpr rfl⟩) (by simp)
theorem Hs.sep {F : List Addr} {B : Hp} {L R : List (Addr × HO)} (s : Hs F B L H) (is js : List Nat) {G : List Addr} (hd : ∀ i ∈ is, ∀ j ∈ js, i ≠ j) (h : is.map (fun i => L[i]?) = R.map some) (hg : js.map (fun j => (L[j]?).map (·.1)) = G.map some) : ∀ q ∈ R, q.1 ∉ G := fun q hq hm => by
  have h1 : some q ∈ is.map (fun i => L[i]?) := by rw [h]; exact List.mem_map.mpr ⟨q, hq, rfl⟩
  obtain ⟨i, hi, e1⟩ := List.mem_map.mp h1
  have h2 : some q.1 ∈ js.map (fun j => (L[j]?).map (·.1)) := by rw [hg]; exact List.mem_map.mpr ⟨q.1, hm, rfl⟩
  obtain ⟨j, hj, e2⟩ := List.mem_map.mp h2
  refine hd i hi j hj (nodup_at s.nd (x := q.1) ?_ ?_)
  · rw [List.getElem?_map]
    have e1' : L[i]? = some q := e1
    rw [e1']; rfl
  · rw [List.getElem?_map]; exact e2
theorem s_fld {a C dx : Addr} {f : Str} {fs : List (Str × V)} (fs' : List (Str × V)) (hv : Val tb σ H v) (ha : Val ta σ H (.ref a)) (ho : H a = some (.ins C dx fs)) (hc : Cls K C) (hn : NoAttr K C f) (hl : fs.length < 1000) (e : putF f v fs = fs')
    (k : tz D σ (upd H a (.ins C dx fs'))) : tSeq (sFld K ta tb f) tz D σ H := hv _ (ha _ ⟨a, C, dx, fs, rfl, ho, hc, hn, hl, by
      show tz D σ (upd H a (.ins C dx (putF f v fs)))
      rw [e]; exact k⟩)
theorem rep_one (n : Nat) (v : V) : (List.replicate n [v]).flatten = List.replicate n v := by
  induction n with
  | zero => rfl
  | succ n ih => rw [List.replicate_succ, List.flatten_cons, ih]; rfl
theorem dp_ints : ∀ ns : List Int, DpAll K H (ns.map V.int) (ns.map PyData.int)
  | [] => .nil
  | n :: r => .cons (.int n) (dp_ints r)
theorem lay_ints : ∀ ns : List Int, PyData.canLayAll0 (ns.map PyData.int) = true
  | [] => rfl
  | _ :: r => lay_ints r
theorem dep_ints : ∀ ns : List Int, PyData.depthAll (ns.map PyData.int) ≤ 1
  | [] => by decide
  | _ :: r => by
    have := dep_ints r
    show max _ (PyData.depthAll (r.map PyData.int)) ≤ 1
    exact Nat.max_le.mpr ⟨Nat.zero_le _, this⟩
theorem dep_ints0 : ∀ ns : List Int, PyData.depthAll (ns.map PyData.int) = 0
  | [] => rfl
  | _ :: r => by
    show max 0 (PyData.depthAll (r.map PyData.int)) = 0
    rw [dep_ints0 r]; rfl
theorem shp_ints (ns : List Int) : SeqAt.shaped (.list (ns.map PyData.int)) = true := by
  unfold SeqAt.shaped
  refine Bool.and_eq_true_iff.mpr ⟨lay_ints ns, decide_eq_true ?_⟩
  have := dep_ints ns
  show _ ≤ 64
  simp only [PyData.depth]
  omega
theorem vand (ha : Val ta σ H (.bl (decide p))) (hb : p → Val tb σ H (.bl (decide q))) : Val (tAndV ta tb) σ H (.bl (decide (p ∧ q))) := fun Q k => ha _ ⟨_, rfl, by
  by_cases hp : p
  · rw [decide_eq_true hp]
    refine hb hp Q ?_
    rw [show decide q = decide (p ∧ q) from by simp [hp]]; exact k
  · rw [decide_eq_false hp]
    rw [show decide (p ∧ q) = false from by simp [hp]] at k; exact k⟩
theorem vor (ha : Val ta σ H (.bl (decide p))) (hb : ¬ p → Val tb σ H (.bl (decide q))) : Val (tOrV ta tb) σ H (.bl (decide (p ∨ q))) := fun Q k => ha _ ⟨_, rfl, by
  by_cases hp : p
  · rw [decide_eq_true hp]
    rw [show decide (p ∨ q) = true from by simp [hp]] at k; exact k
  · rw [decide_eq_false hp]
    refine hb hp Q ?_
    rw [show decide q = decide (p ∨ q) from by simp [hp]]; exact k⟩
theorem vnot (ha : Val ta σ H (.bl (decide p))) : Val (tNotV ta) σ H (.bl (decide (¬ p))) := fun Q k => ha _ ⟨_, rfl, by rw [dec_not]; exact k⟩
/-! loops turn by turn -/
def Unr (tu : TS) (D : Ends) (tz : TS) (j : Nat) : Nat → Nat → L2.St → Hp → Prop
  | 0, _, σ, H => tz D σ H
  | m + 1, i, σ, H => tu { D with nx := Unr tu D tz j m (i + 1), ct := Unr tu D tz j m (i + 1), bk := tz D } (σ.set j (some (.int (i : Int)))) H
theorem s_unrR1 {tr : TA} {n m : Nat} (h : VA tr σ H [.int (m : Int)]) (hm : m < 1000) (k : Unr tu D tz n m 0 σ H) : tSeq (tFor (iRng1 tr) (gName n) tu) tz D σ H :=
  s_forR1 h ⟨by omega, by omega⟩ (fun i σ H => Unr tu D tz n (m - i) i σ H) (by exact k) (fun i σ' H' hi p => by
    have e : m - i = (m - (i + 1)) + 1 := by omega
    rw [e] at p
    exact p) (fun σ' H' p => by
    rw [show m - (m : Int).toNat = 0 by omega] at p
    exact p)
theorem u_done {j i : Nat} (k : tz D σ H) : Unr tu D tz j 0 i σ H := k
theorem u_next {j m i : Nat} (k : tu { D with nx := Unr tu D tz j m (i + 1), ct := Unr tu D tz j m (i + 1), bk := tz D } (σ.set j (some (.int (i : Int)))) H) : Unr tu D tz j (m + 1) i σ H := k
theorem visb {a b : Bool} (ha : Val ta σ H (.bl a)) (hb : Val tb σ H (.bl b)) : Val (tOp rIsB ta tb) σ H (.bl (decide (a = b))) := fun Q q => ha _ (hb _ ⟨a, b, rfl, rfl, q⟩)
theorem vnotb {a b : Bool} (ha : Val ta σ H (.bl a)) (hb : Val tb σ H (.bl b)) : Val (tOp rNotB ta tb) σ H (.bl (decide (a ≠ b))) := fun Q q => ha _ (hb _ ⟨a, b, rfl, rfl, by rw [dec_not]; exact q⟩)
theorem Hs.tl {F : List Addr} {B : Hp} {L : List (Addr × HO)} {x : Addr × HO} (s : Hs F B (x :: L) H) : Hs F B L H :=
  ⟨s.fr, s.al, fun q h => s.own q (List.mem_cons_of_mem _ h), fun q h => s.fs q (List.mem_cons_of_mem _ h), (List.nodup_cons.mp s.nd).2⟩
theorem range_map_snoc (f : Nat → Int) (i : Nat) : (((List.range (i + 1)).map f).map V.int) = (((List.range i).map f).map V.int) ++ [V.int (f i)] := by
  rw [List.range_succ, List.map_append, List.map_append]; rfl
theorem c_lcR {F : List Addr} {B : Hp} {L : List (Addr × HO)} {n : Int} {tr : TA} {j : Nat} {vs : List Nat} {Q : VK} (f : Nat → Int) (s : Hs F B L H) (h : VA tr σ H [.int n]) (hn : 0 ≤ n ∧ n ≤ 1000000) (hw : ∀ x, wipe ((wipe σ vs).set j (some x)) vs = wipe σ vs)
    (he : ∀ (i : Nat) H', (i : Int) < n → Hs F B L H' → Val te ((wipe σ vs).set j (some (.int (i : Int)))) H' (.int (f i)))
    (k : ∀ D H', Hs F B ((D, .lst (((List.range n.toNat).map f).map V.int)) :: L) H' → Q (.ref D) H') : tLc (iRng1 tr) (gName j) tYes te vs σ H Q :=
  h _ ⟨n, rfl, by omega, by omega, fun D hD => lc_range (lo := 0) (n := n.toNat) (fun i H' => Hs F B ((D, .lst (((List.range i).map f).map V.int)) :: L) H') (s.new hD _) (fun i H' hi p => by
    show wipe ((wipe σ vs).set j (some (.int ((0 : Int) + (i : Int))))) vs = wipe σ vs ∧ te ((wipe σ vs).set j (some (.int ((0 : Int) + (i : Int))))) H' fun y H4 => ∃ acc, H4 D = some (.lst acc) ∧ acc.length < sizeLine ∧ Hs F B ((D, .lst (((List.range (i + 1)).map f).map V.int)) :: L) (upd H4 D (.lst (acc ++ [y])))
    rw [Int.zero_add]
    refine ⟨hw _, he i H' (by omega) p.tl _ ⟨((List.range i).map f).map V.int, p.mem 0 rfl, sz2 (by simp only [List.length_map, List.length_range]; omega), ?_⟩⟩
    rw [range_map_snoc]
    exact p.wr 0 _ rfl) (fun H' p => k D H' p)⟩
theorem c_yes {A B : Prop} (hp : p) (k : A) : if decide p = true then A else B := by rw [decide_eq_true hp]; exact k
theorem c_no {A B : Prop} (hp : ¬ p) (k : B) : if decide p = true then A else B := by rw [decide_eq_false hp]; exact k
theorem ty_l {a : Addr} {xs : List V} (h : SqL K H a xs) : tyV K "list" (.ref a) H := .inl ⟨rfl, xs, h⟩
abbrev rMin2 : List V → Hp → VK → Prop := fun xs H Q => ∃ i j, xs = [.int i, .int j] ∧ Q (.int (if j < i then j else i)) H
abbrev rMax2 : List V → Hp → VK → Prop := fun xs H Q => ∃ i j, xs = [.int i, .int j] ∧ Q (.int (if j > i then j else i)) H
theorem vmin2 {i j : Int} (ha : Val ta σ H (.int i)) (hb : Val tb σ H (.int j)) : Val (tCB rMin2 (tCons ta (tCons tb tNil))) σ H (.int (if j < i then j else i)) := fun Q q => ha _ (hb _ ⟨i, j, rfl, q⟩)
theorem vmax2 {i j : Int} (ha : Val ta σ H (.int i)) (hb : Val tb σ H (.int j)) : Val (tCB rMax2 (tCons ta (tCons tb tNil))) σ H (.int (if j > i then j else i)) := fun Q q => ha _ (hb _ ⟨i, j, rfl, q⟩)
theorem pe_nev {X : Cx} {e : Expr} : PE X e (fun _ _ _ => False) := ⟨fun _ _ _ _ _ _ h => h.elim⟩
theorem pt_nev {X : Cx} {e : Expr} : PT X e (fun _ _ _ => False) := ⟨fun _ _ _ _ _ _ h => h.elim⟩
theorem kQb {b : Bool} {P : Hp → Prop} (Q : VK) (k : ∀ H', P H' → Q (.bl (decide (b = true))) H') : ∀ H', P H' → Q (.bl b) H' := fun H' h => by
  have := k H' h
  rwa [show decide (b = true) = b from by cases b <;> rfl] at this
theorem c_andV {F : List Addr} {B : Hp} {L : List (Addr × HO)} {Q : VK} (s : Hs F B L H) (ha : Val ta σ H (.bl (decide p))) (hb : p → ∀ Q : VK, (∀ H', Hs F B L H' → Q (.bl (decide q)) H') → tb σ H Q)
    (k : ∀ H', Hs F B L H' → Q (.bl (decide (p ∧ q))) H') : tAndV ta tb σ H Q := ha _ ⟨_, rfl, by
  by_cases hp : p
  · rw [decide_eq_true hp]
    refine hb hp Q fun H' h => ?_
    rw [show decide q = decide (p ∧ q) from by simp [hp]]; exact k H' h
  · rw [decide_eq_false hp]
    have := k H s
    rw [show decide (p ∧ q) = false from by simp [hp]] at this; exact this⟩
theorem c_orV {F : List Addr} {B : Hp} {L : List (Addr × HO)} {Q : VK} (s : Hs F B L H) (ha : Val ta σ H (.bl (decide p))) (hb : ¬ p → ∀ Q : VK, (∀ H', Hs F B L H' → Q (.bl (decide q)) H') → tb σ H Q)
    (k : ∀ H', Hs F B L H' → Q (.bl (decide (p ∨ q))) H') : tOrV ta tb σ H Q := ha _ ⟨_, rfl, by
  by_cases hp : p
  · rw [decide_eq_true hp]
    have := k H s
    rw [show decide (p ∨ q) = true from by simp [hp]] at this; exact this
  · rw [decide_eq_false hp]
    refine hb hp Q fun H' h => ?_
    rw [show decide q = decide (p ∨ q) from by simp [hp]]; exact k H' h⟩
theorem c_iten {A B : Prop} (h2 : ¬ p → A) (h1 : p → B) : if (!decide p) = true then A else B := by
  by_cases hp : p
  · rw [decide_eq_true hp]; exact h1 hp
  · rw [decide_eq_false hp]; exact h2 hp
theorem c_iteBn {b : Bool} {A B : Prop} (h2 : ¬ b = true → A) (h1 : b = true → B) : if (!b) = true then A else B := by
  cases b with
  | true => exact h1 rfl
  | false => exact h2 Bool.false_ne_true
theorem c_or {Q : Bool → Hp → Prop} (k : t σ H fun c H1 => if c = true then Q true H1 else u σ H1 Q) : tOr t u σ H Q := k
theorem c_and {Q : Bool → Hp → Prop} (k : t σ H fun c H1 => if c = true then u σ H1 Q else Q false H1) : tAnd t u σ H Q := k
theorem c_not {Q : Bool → Hp → Prop} (k : t σ H fun c H1 => Q (!c) H1) : tNot t σ H Q := k
theorem c_tB {Q : Bool → Hp → Prop} (k : te σ H fun x H' => ∃ b, x = .bl b ∧ Q b H') : tB te σ H Q := k
theorem flat_ints (ns : List Int) : (ns.map V.int).all flatV = true := by
  induction ns with
  | nil => rfl
  | cons n r ih => exact ih
theorem inV_ints (a : Int) (ns : List Int) : inV (V.int a) (ns.map V.int) = decide (a ∈ ns) := by
  induction ns with
  | nil => rfl
  | cons n r ih =>
    have e : inV (V.int a) ((n :: r).map V.int) = (n == a || inV (V.int a) (r.map V.int)) := rfl
    rw [e, ih]
    by_cases h : n = a
    · subst h; simp
    · have h2 : ¬ a = n := fun z => h z.symm
      simp [h, h2]
theorem r_in {a : Int} {ns : List Int} {p : Addr} {Q : VK} (h : SqL K H p (ns.map V.int) ∨ SqT K H p (ns.map V.int)) (k : Q (.bl (decide (a ∈ ns))) H) : rIn K false (.int a) (.ref p) H Q :=
  ⟨p, ns.map V.int, rfl, h, rfl, flat_ints _, by
    show Q (.bl (inV (V.int a) (ns.map V.int))) H
    rw [inV_ints]; exact k⟩
theorem r_notin {a : Int} {ns : List Int} {p : Addr} {Q : VK} (h : SqL K H p (ns.map V.int) ∨ SqT K H p (ns.map V.int)) (k : Q (.bl (decide (¬ (a ∈ ns)))) H) : rIn K true (.int a) (.ref p) H Q :=
  ⟨p, ns.map V.int, rfl, h, rfl, flat_ints _, by
    show Q (.bl (!inV (V.int a) (ns.map V.int))) H
    rw [inV_ints, dec_not]; exact k⟩
theorem inI_t {a : Int} {ns : List Int} (h : (if false = true then !inV (V.int a) (ns.map V.int) else inV (V.int a) (ns.map V.int)) = true) : a ∈ ns := by
  have h' : inV (V.int a) (ns.map V.int) = true := h
  rw [inV_ints] at h'; exact of_decide_eq_true h'
theorem inI_f {a : Int} {ns : List Int} (h : ¬ (if false = true then !inV (V.int a) (ns.map V.int) else inV (V.int a) (ns.map V.int)) = true) : ¬ a ∈ ns := fun z => h (by
  show inV (V.int a) (ns.map V.int) = true
  rw [inV_ints]; exact decide_eq_true z)
theorem niI_t {a : Int} {ns : List Int} (h : (if true = true then !inV (V.int a) (ns.map V.int) else inV (V.int a) (ns.map V.int)) = true) : ¬ a ∈ ns := fun z => by
  have h' : (!inV (V.int a) (ns.map V.int)) = true := h
  rw [inV_ints, decide_eq_true z] at h'; cases h'
theorem niI_f {a : Int} {ns : List Int} (h : ¬ (if true = true then !inV (V.int a) (ns.map V.int) else inV (V.int a) (ns.map V.int)) = true) : a ∈ ns := by
  refine Decidable.byContradiction fun z => h ?_
  show (!inV (V.int a) (ns.map V.int)) = true
  rw [inV_ints, decide_eq_false z]; rfl
end
end G
local macro_rules | `(tactic| walk_at "side") => `(tactic| first | omega | assumption | decide | exact Int.emod_nonneg _ (by omega) | exact Int.emod_lt_of_pos _ (by omega) | (simp only [List.length_map, List.length_append, List.length_cons, List.length_nil, List.length_replicate, List.length_set, G.gi] <;> omega) | (simp <;> omega) | walk_at "side2")
local macro_rules | `(tactic| walk_at "cmul") => `(tactic| first | decide | (constructor <;> omega))
local macro_rules | `(tactic| walk_at "cmul2") => `(tactic| first | exact .inl (by constructor <;> omega) | exact .inr (by constructor <;> omega))
local macro_rules | `(tactic| walk_at "dead") => `(tactic| first | omega | contradiction | (simp_all; done) | (simp_all; omega))
local macro_rules | `(tactic| walk_at "finL") => `(tactic| first | rfl | (subst_vars; rfl) | (simp; done))
local macro_rules | `(tactic| walk_at "inv") => `(tactic| first | assumption | rfl | omega | (simp; done) | (simp_all; done))
local macro_rules | `(tactic| walk_at "fin") => `(tactic| first | rfl | (simp_all; done))
local macro_rules | `(tactic| walk_at "shp") => `(tactic| first | rfl | decide | (unfold PySem.SeqAt.shaped; simp [PySem.PyData.canLay0, PySem.PyData.canLayAll0, PySem.PyData.depth, PySem.PyData.depthAll, G.lay_ints, G.dep_ints0]; done) | exact G.shp_ints _)
local macro_rules | `(tactic| walk_at "known") => `(tactic| first | decide | (simp; done) | omega | (simp_all; done))
/-! ### texts by their codes -/
namespace G
open PySem PySem.Spec PyProof.Rows L2
def sO (xs : List Nat) : Str := ⟨xs.toArray⟩
theorem sO_cps (xs : List Nat) : (sO xs).cps.toList = xs := rfl
theorem sO_len (xs : List Nat) : (sO xs).length = xs.length := by simp [sO, Str.length]
theorem sO_app (xs ys : List Nat) : sO xs ++ sO ys = sO (xs ++ ys) := by
  show Str.append (sO xs) (sO ys) = sO (xs ++ ys)
  simp [sO, Str.append]
theorem sO_inj {xs ys : List Nat} (h : sO xs = sO ys) : xs = ys := by
  have := congrArg (fun s : Str => s.cps.toList) h
  exact this
theorem sO_of (s : Str) : s = sO s.cps.toList := by
  cases s with
  | mk c => simp [sO]
def gn (xs : List Nat) (i : Int) : Nat := xs.getD i.toNat 0
theorem at_gn {xs : List Nat} {i : Int} (h0 : 0 ≤ i) (h1 : i < (xs.length : Int)) : atI xs i = some (gn xs i) := by
  obtain ⟨n, rfl⟩ := Int.eq_ofNat_of_zero_le h0
  refine atI_nat ?_
  have hn : n < xs.length := by omega
  rw [List.getElem?_eq_getElem hn]
  show some xs[n] = some (xs.getD n 0)
  rw [List.getD_eq_getElem?_getD, List.getElem?_eq_getElem hn]; rfl
theorem gn_mem {xs : List Nat} {i : Int} (h0 : 0 ≤ i) (h1 : i < (xs.length : Int)) : gn xs i ∈ xs := by
  obtain ⟨n, rfl⟩ := Int.eq_ofNat_of_zero_le h0
  have hn : n < xs.length := by omega
  show xs.getD n 0 ∈ xs
  rw [List.getD_eq_getElem?_getD, List.getElem?_eq_getElem hn]
  exact List.getElem_mem hn
section
variable {K : PySem.W.Frag} {σ σ' : L2.St} {H : Hp} {ta tb te : TE} {tz tu : TS} {D : Ends}
abbrev rAddS : R2 := fun x y H Q => ∃ i j, x = .str i ∧ y = .str j ∧ i.length + j.length ≤ sizeLine ∧ Q (.str (i ++ j)) H
theorem vcat {a b : List Nat} (h : a.length + b.length ≤ 1000000) (ha : Val ta σ H (.str (sO a))) (hb : Val tb σ H (.str (sO b))) : Val (tOp rAddS ta tb) σ H (.str (sO (a ++ b))) := fun Q q =>
  ha _ (hb _ ⟨sO a, sO b, rfl, rfl, by rw [sO_len, sO_len]; exact sz1 h, by rw [sO_app]; exact q⟩)
theorem r_cat {a b : List Nat} {Q : VK} (h : a.length + b.length ≤ 1000000) (k : Q (.str (sO (a ++ b))) H) : rAddS (.str (sO a)) (.str (sO b)) H Q :=
  ⟨sO a, sO b, rfl, rfl, by rw [sO_len, sO_len]; exact sz1 h, by rw [sO_app]; exact k⟩
theorem vixS {a : List Nat} {i : Int} {c : Nat} (h : a.length ≤ 1000000) (hc : atI a i = some c) (ha : Val ta σ H (.str (sO a))) (hb : Val tb σ H (.int i)) : Val (tOp rIxS ta tb) σ H (.str (sO [c])) := fun Q q =>
  ha _ (hb _ ⟨sO a, i, c, rfl, rfl, by rw [sO_len]; exact sz1 h, by rw [sO_cps]; exact hc, q⟩)
abbrev rLenT : List V → Hp → VK → Prop := fun xs H Q => ∃ z, xs = [.str z] ∧ z.length ≤ sizeLine ∧ Q (.int z.length) H
theorem vlenS {a : List Nat} (h : a.length ≤ 1000000) (ha : Val ta σ H (.str (sO a))) : Val (tCB rLenT (tCons ta tNil)) σ H (.int a.length) := fun Q q =>
  ha _ ⟨sO a, rfl, by rw [sO_len]; exact sz1 h, by rw [sO_len]; exact q⟩
theorem veqS {a b : List Nat} (ha : Val ta σ H (.str (sO a))) (hb : Val tb σ H (.str (sO b))) : Val (tOp rEq ta tb) σ H (.bl (decide (a = b))) := fun Q q =>
  ha _ (hb _ ⟨rfl, by rw [dec_eq_V (fun x => V.str (sO x)) (fun _ _ e => sO_inj (V.str.inj e))]; exact q⟩)
theorem vneS {a b : List Nat} (ha : Val ta σ H (.str (sO a))) (hb : Val tb σ H (.str (sO b))) : Val (tOp rNe ta tb) σ H (.bl (decide (a ≠ b))) := fun Q q =>
  ha _ (hb _ ⟨rfl, by rw [dec_eq_V (fun x => V.str (sO x)) (fun _ _ e => sO_inj (V.str.inj e)), dec_not]; exact q⟩)
theorem r_eqS {a b : List Nat} {Q : VK} (k : Q (.bl (decide (a = b))) H) : rEq (.str (sO a)) (.str (sO b)) H Q := ⟨rfl, by rw [dec_eq_V (fun x => V.str (sO x)) (fun _ _ e => sO_inj (V.str.inj e))]; exact k⟩
theorem r_neS {a b : List Nat} {Q : VK} (k : Q (.bl (decide (a ≠ b))) H) : rNe (.str (sO a)) (.str (sO b)) H Q := ⟨rfl, by rw [dec_eq_V (fun x => V.str (sO x)) (fun _ _ e => sO_inj (V.str.inj e)), dec_not]; exact k⟩
abbrev rOrd : List V → Hp → VK → Prop := fun xs H Q => ∃ x, xs = [.str x] ∧ x.length = 1 ∧ Q (.int (x.cps.getD 0 0 : Nat)) H
theorem vord {c : Nat} (ha : Val ta σ H (.str (sO [c]))) : Val (tCB rOrd (tCons ta tNil)) σ H (.int c) := fun Q q => ha _ ⟨sO [c], rfl, rfl, q⟩
/-- for c in s -/
theorem s_forS {a : List Nat} {n : Nat} (h : Val te σ H (.str (sO a))) (Pv : Nat → L2.St → Hp → Prop) (h0 : Pv 0 σ H)
    (hs : ∀ i c σ' H', a[i]? = some c → Pv i σ' H' → tu { D with nx := Pv (i + 1), ct := Pv (i + 1), bk := tz D } (σ'.set n (some (.str (sO [c])))) H') (hd : ∀ σ' H', Pv a.length σ' H' → tz D σ' H') : tSeq (tFor (iStr te) (gName n) tu) tz D σ H :=
  h _ ⟨sO a, rfl, for_it (n := a.length) (Y := fun i H v H' => H' = H ∧ ∃ c, a[i]? = some c ∧ v = .str (sO [c])) ⟨fun i _ hi _ => by
      show i < (sO a).cps.size
      simpa [sO] using hi, fun _ _ => by
      show (sO a).cps.size ≤ a.length
      simp [sO], fun i _ x _ _ _ y => by
      obtain ⟨e, c, hc, hv⟩ := y
      refine ⟨e, c, ?_, hv⟩
      have hc' : (sO a).cps[i]? = some c := hc
      simpa [sO] using hc'⟩ (G := fun _ => True) Pv h0 (fun _ _ _ _ _ => trivial) (fun i x σ1 H1 H2 hi hp y => by
    obtain ⟨rfl, c, hc, rfl⟩ := y
    exact hs i c σ1 H2 hc hp) hd⟩
/-- [e for c in s] -/
theorem c_lcS {F : List Addr} {B : Hp} {L : List (Addr × HO)} {a : List Nat} {j : Nat} {vs : List Nat} {Q : VK} (g : Nat → V) (s : Hs F B L H) (h : Val te σ H (.str (sO a))) (hn : a.length ≤ 100000) (hw : ∀ x, wipe ((wipe σ vs).set j (some x)) vs = wipe σ vs)
    (he : ∀ (i : Nat) c H', a[i]? = some c → Hs F B L H' → Val tb ((wipe σ vs).set j (some (.str (sO [c])))) H' (g c))
    (k : ∀ D H', Hs F B ((D, .lst (a.map g)) :: L) H' → Q (.ref D) H') : tLc (iStr te) (gName j) tYes tb vs σ H Q :=
  h _ ⟨sO a, rfl, fun D hD => lc_it (n := a.length) (G := fun _ => True) (Y := fun i H v H' => H' = H ∧ ∃ c, a[i]? = some c ∧ v = .str (sO [c])) ⟨fun i _ hi _ => by
      show i < (sO a).cps.size
      simpa [sO] using hi, fun _ _ => by
      show (sO a).cps.size ≤ a.length
      simp [sO], fun i _ x _ _ _ y => by
      obtain ⟨e, c, hc, hv⟩ := y
      refine ⟨e, c, ?_, hv⟩
      have hc' : (sO a).cps[i]? = some c := hc
      simpa [sO] using hc'⟩ (fun i H' => Hs F B ((D, .lst ((a.take i).map g)) :: L) H') (s.new hD _) (fun _ _ _ _ => trivial) (fun i x H1 H2 hi p y => by
    obtain ⟨rfl, c, hc, rfl⟩ := y
    show wipe ((wipe σ vs).set j (some (.str (sO [c])))) vs = wipe σ vs ∧ tb ((wipe σ vs).set j (some (.str (sO [c])))) H2 fun y H4 => ∃ acc, H4 D = some (.lst acc) ∧ acc.length < sizeLine ∧ Hs F B ((D, .lst ((a.take (i + 1)).map g)) :: L) (upd H4 D (.lst (acc ++ [y])))
    refine ⟨hw _, he i c H2 hc p.tl _ ⟨(a.take i).map g, p.mem 0 rfl, sz2 (by rw [List.length_map, List.length_take]; omega), ?_⟩⟩
    rw [show (a.take (i + 1)).map g = (a.take i).map g ++ [g c] from by rw [List.take_add_one, hc, List.map_append]; rfl]
    exact p.wr 0 _ rfl) (fun H' p => k D H' (by rwa [List.take_length] at p))⟩
theorem map_comp_V {α β : Type} (f : α → β) (v : β → V) (a : List α) : a.map (fun c => v (f c)) = (a.map f).map v := (List.map_map ..).symm
abbrev rJoin (K : PySem.W.Frag) : V → List V → Hp → VK → Prop := fun x xs H Q => ∃ a p, ∃ ys : List Str, x = .str a ∧ xs = [.ref p] ∧ (SqL K H p (ys.map V.str) ∨ SqT K H p (ys.map V.str)) ∧ (ys.map (·.length)).sum + ys.length * a.length ≤ 16777216 ∧ Q (.str (Txt.join a ys)) H
theorem c_m1 {r : V → List V → Hp → VK → Prop} {Q : VK} (k : ta σ H fun x H1 => (∃ a, x = .str a) ∧ te σ H1 fun y H2 => r x [y] H2 Q) : tM1 r ta te σ H Q := k
theorem fold_join (acc : List Nat) : ∀ ws : List (List Nat), (ws.map sO).foldl (fun (acc : Array Nat) (p : Str) => acc ++ (sO []).cps ++ p.cps) acc.toArray = (acc ++ ws.flatten).toArray
  | [] => by simp
  | w :: r => by
    have e : acc.toArray ++ (sO []).cps ++ (sO w).cps = (acc ++ w).toArray := by simp [sO]
    rw [List.map_cons, List.foldl_cons, e, fold_join (acc ++ w) r, List.flatten_cons, List.append_assoc]
theorem join_nil (ws : List (List Nat)) : Txt.join (sO []) (ws.map sO) = sO ws.flatten := by
  show (⟨((ws.map sO).drop 1).foldl (fun acc p => acc ++ (sO []).cps ++ p.cps) ((ws.map sO).headD Str.empty).cps⟩ : Str) = sO ws.flatten
  cases ws with
  | nil => rfl
  | cons w r =>
    show (⟨(r.map sO).foldl (fun acc p => acc ++ (sO []).cps ++ p.cps) w.toArray⟩ : Str) = sO (w :: r).flatten
    rw [fold_join w r, List.flatten_cons]; rfl
theorem len_strs (ws : List (List Nat)) : ((ws.map sO).map (·.length)).sum = ws.flatten.length := by
  induction ws with
  | nil => rfl
  | cons w r ih => rw [List.map_cons, List.map_cons, List.sum_cons, ih, List.flatten_cons, List.length_append, sO_len]
theorem r_join {ws : List (List Nat)} {p : Addr} {Q : VK} (h : SqL K H p ((ws.map sO).map V.str)) (hl : ws.flatten.length ≤ 1000000) (k : Q (.str (sO ws.flatten)) H) : rJoin K (.str (sO [])) [.ref p] H Q :=
  ⟨sO [], p, ws.map sO, rfl, rfl, .inl h, by
    rw [len_strs]
    have e : (sO []).length = 0 := rfl
    rw [e, Nat.mul_zero]; omega, by rw [join_nil]; exact k⟩
end
end G
/-! ### comprehensions with a test, over lists, tuples and ranges of ints; insert; slices -/
namespace G
open PySem PySem.Spec PyProof.Rows L2
section
variable {K : PySem.W.Frag} {σ σ' : L2.St} {H : Hp} {ta tb te : TE} {tt : TT} {tz tu : TS} {D : Ends} {F : List Addr} {B : Hp} {L : List (Addr × HO)}
theorem ans_yes : Ans tYes σ H True := fun _ q => q
def fm (p : Int → Prop) [DecidablePred p] (f : Int → Int) (ns : List Int) : List Int := (ns.filter fun x => decide (p x)).map f
theorem fm_le (p : Int → Prop) [DecidablePred p] (f : Int → Int) (ns : List Int) : (fm p f ns).length ≤ ns.length := by
  unfold fm; rw [List.length_map]; exact List.length_filter_le _ _
theorem fm_snoc (p : Int → Prop) [DecidablePred p] (f : Int → Int) (ns : List Int) (n : Int) : fm p f (ns ++ [n]) = fm p f ns ++ (if p n then [f n] else []) := by
  unfold fm
  rw [List.filter_append, List.map_append]
  by_cases h : p n
  · simp [h]
  · simp [h]
theorem c_lcF {ns : List Int} {a : Addr} {j : Nat} {vs : List Nat} {Q : VK} (p : Int → Prop) [DecidablePred p] (f : Int → Int) (s : Hs F B L H) (h : Val te σ H (.ref a)) (hl : ∀ H', Hs F B L H' → SqL K H' a (ns.map V.int)) (hn : ns.length ≤ 100000) (hw : ∀ x, wipe ((wipe σ vs).set j (some x)) vs = wipe σ vs)
    (ht : ∀ (i : Nat) n H', ns[i]? = some n → Hs F B L H' → Ans tt ((wipe σ vs).set j (some (.int n))) H' (p n))
    (he : ∀ (i : Nat) n H', ns[i]? = some n → p n → Hs F B L H' → Val tb ((wipe σ vs).set j (some (.int n))) H' (.int (f n)))
    (k : ∀ D H', Hs F B ((D, .lst ((fm p f ns).map V.int)) :: L) H' → Q (.ref D) H') : tLc (iList K te) (gName j) tt tb vs σ H Q :=
  h _ ⟨a, rfl, ⟨_, hl H s⟩, fun D hD => lc_list (xs := ns.map V.int) (fun i H' => Hs F B ((D, .lst ((fm p f (ns.take i)).map V.int)) :: L) H') (s.new hD _) (fun i H' _ q => hl _ q.tl) (fun i x H2 hx q => by
    rw [List.getElem?_map] at hx
    cases e : ns[i]? with
    | none => rw [e] at hx; cases hx
    | some n =>
      rw [e] at hx; cases hx
      show wipe ((wipe σ vs).set j (some (.int n))) vs = wipe σ vs ∧ tt ((wipe σ vs).set j (some (.int n))) H2 fun b H3 =>
        if b = true then tb ((wipe σ vs).set j (some (.int n))) H3 fun y H4 => ∃ acc, H4 D = some (.lst acc) ∧ acc.length < sizeLine ∧ Hs F B ((D, .lst ((fm p f (ns.take (i + 1))).map V.int)) :: L) (upd H4 D (.lst (acc ++ [y])))
        else Hs F B ((D, .lst ((fm p f (ns.take (i + 1))).map V.int)) :: L) H3
      refine ⟨hw _, ht i n H2 e q.tl _ ?_⟩
      have e1 : ns.take (i + 1) = ns.take i ++ [n] := by rw [List.take_add_one, e]; rfl
      rw [e1, fm_snoc]
      by_cases hp : p n
      · rw [decide_eq_true hp, if_pos hp]
        refine he i n H2 e hp q.tl _ ⟨_, q.mem 0 rfl, sz2 (by rw [List.length_map]; exact Nat.lt_of_le_of_lt (fm_le ..) (by rw [List.length_take]; omega)), ?_⟩
        rw [List.map_append]
        exact q.wr 0 _ rfl
      · rw [decide_eq_false hp, if_neg hp, List.append_nil]
        exact q) (fun H' q => k D H' (by rwa [List.length_map, List.take_length] at q))⟩
def rgI (lo : Int) (n : Nat) : List Int := (List.range n).map fun (j : Nat) => lo + (j : Int)
theorem rgI_snoc (lo : Int) (n : Nat) : rgI lo (n + 1) = rgI lo n ++ [lo + (n : Int)] := by unfold rgI; rw [List.range_succ, List.map_append]; rfl
theorem rgI_len (lo : Int) (n : Nat) : (rgI lo n).length = n := by unfold rgI; rw [List.length_map, List.length_range]
theorem mem_rgI {lo x : Int} {n : Nat} : x ∈ rgI lo n ↔ lo ≤ x ∧ x < lo + (n : Int) := by
  unfold rgI
  rw [List.mem_map]
  constructor
  · rintro ⟨j, hj, rfl⟩; have := List.mem_range.mp hj; omega
  · rintro ⟨h0, h1⟩; exact ⟨(x - lo).toNat, List.mem_range.mpr (by omega), by omega⟩
theorem c_lcR2 {lo m : Int} {tr : TA} {j : Nat} {vs : List Nat} {Q : VK} (p : Int → Prop) [DecidablePred p] (f : Int → Int) (s : Hs F B L H) (h : VA tr σ H [.int lo, .int m]) (hn : -1000000 ≤ lo ∧ lo ≤ 1000000 ∧ -1000000 ≤ m ∧ m - lo ≤ 100000) (hw : ∀ x, wipe ((wipe σ vs).set j (some x)) vs = wipe σ vs)
    (ht : ∀ n H', lo ≤ n → n < m → Hs F B L H' → Ans tt ((wipe σ vs).set j (some (.int n))) H' (p n))
    (he : ∀ n H', lo ≤ n → n < m → p n → Hs F B L H' → Val te ((wipe σ vs).set j (some (.int n))) H' (.int (f n)))
    (k : ∀ D H', Hs F B ((D, .lst ((fm p f (rgI lo (m - lo).toNat)).map V.int)) :: L) H' → Q (.ref D) H') : tLc (iRng2 tr) (gName j) tt te vs σ H Q :=
  h _ ⟨lo, m, rfl, by omega, fun D hD => lc_range (lo := lo) (n := (m - lo).toNat) (fun i H' => Hs F B ((D, .lst ((fm p f (rgI lo i)).map V.int)) :: L) H') (s.new hD _) (fun i H2 hi q => by
    show wipe ((wipe σ vs).set j (some (.int (lo + (i : Int))))) vs = wipe σ vs ∧ tt ((wipe σ vs).set j (some (.int (lo + (i : Int))))) H2 fun b H3 =>
        if b = true then te ((wipe σ vs).set j (some (.int (lo + (i : Int))))) H3 fun y H4 => ∃ acc, H4 D = some (.lst acc) ∧ acc.length < sizeLine ∧ Hs F B ((D, .lst ((fm p f (rgI lo (i + 1))).map V.int)) :: L) (upd H4 D (.lst (acc ++ [y])))
        else Hs F B ((D, .lst ((fm p f (rgI lo (i + 1))).map V.int)) :: L) H3
    refine ⟨hw _, ht _ H2 (by omega) (by omega) q.tl _ ?_⟩
    rw [rgI_snoc, fm_snoc]
    by_cases hp : p (lo + (i : Int))
    · rw [decide_eq_true hp, if_pos hp]
      refine he _ H2 (by omega) (by omega) hp q.tl _ ⟨_, q.mem 0 rfl, sz2 (by rw [List.length_map]; exact Nat.lt_of_le_of_lt (fm_le ..) (by rw [rgI_len]; omega)), ?_⟩
      rw [List.map_append]
      exact q.wr 0 _ rfl
    · rw [decide_eq_false hp, if_neg hp, List.append_nil]
      exact q) (fun H' q => k D H' q)⟩
/-! insert -/
abbrev rInsert : V → List V → Hp → VK → Prop := fun x vs H Q => ∃ (l : Addr) (xs : List V) (i : Int) (y : V), x = .ref l ∧ vs = [.int i, y] ∧ H l = some (.lst xs) ∧ xs.length < sizeLine ∧ 0 ≤ i ∧ i < 2 ^ 63 ∧
    Q .non (upd H l (.lst (xs.take i.toNat ++ [y] ++ xs.drop i.toNat)))
def insI (xs : List Int) (i n : Int) : List Int := xs.take i.toNat ++ [n] ++ xs.drop i.toNat
theorem s_insI {l : Addr} {xs : List Int} {n i : Int} (hl : H l = some (.lst (xs.map V.int))) (ha : Val ta σ H (.ref l)) (hi : Val tb σ H (.int i)) (h : Val te σ H (.int n)) (hz : xs.length < 1000000) (h0 : 0 ≤ i) (h1 : i < 2 ^ 62) (k : tz D σ (upd H l (.lst ((insI xs i n).map V.int)))) :
    tSeq (tDrop (tBM K "list" rInsert ta (tCons tb (tCons te tNil)))) tz D σ H := ha _ ⟨Or.inl ⟨rfl, xs.map V.int, SqL.of hl⟩, hi _ (h _ ⟨l, xs.map V.int, i, .int n, rfl, rfl, hl, by rw [List.length_map]; exact sz2 hz, h0, by omega, by
      show tz D σ (upd H l (.lst ((xs.map V.int).take i.toNat ++ [V.int n] ++ (xs.map V.int).drop i.toNat)))
      rw [insI, List.map_append, List.map_append, List.map_take, List.map_drop] at k; exact k⟩)⟩
/-! slices -/
def VP (tp : TO) (σ : L2.St) (H : Hp) (o : Option Int) : Prop := ∀ Q : Option Int → Hp → Prop, Q o H → tp σ H Q
theorem vp0 : VP tNoPart σ H none := fun _ q => q
theorem vp1 {i : Int} (h : Val te σ H (.int i)) : VP (tPart te) σ H (some i) := fun Q q => h _ ⟨i, rfl, q⟩
def cutN (a : List Nat) (lo hi : Int) : List Nat := (a.drop lo.toNat).take (hi.toNat - lo.toNat)
def cutI (a : List Int) (lo hi : Int) : List Int := (a.drop lo.toNat).take (hi.toNat - lo.toNat)
def pLo : Option Int → Int := fun o => o.getD 0
def pHi (n : Nat) : Option Int → Int := fun o => o.getD n
theorem sIx_lo {n : Nat} {o : Option Int} (h0 : 0 ≤ pLo o) (h1 : pLo o ≤ (n : Int)) : HT.sIx n 0 o = (pLo o).toNat := by
  cases o with
  | none => rfl
  | some i =>
    show (if i < 0 then (i + (n : Int)).toNat else min i.toNat n) = i.toNat
    have h0' : 0 ≤ i := h0
    have h1' : i ≤ (n : Int) := h1
    rw [if_neg (by omega)]; omega
theorem sIx_hi {n : Nat} {o : Option Int} (h0 : 0 ≤ pHi n o) (h1 : pHi n o ≤ (n : Int)) : HT.sIx n n o = (pHi n o).toNat := by
  cases o with
  | none => show n = ((n : Nat) : Int).toNat; omega
  | some i =>
    show (if i < 0 then (i + (n : Int)).toNat else min i.toNat n) = i.toNat
    have h0' : 0 ≤ i := h0
    have h1' : i ≤ (n : Int) := h1
    rw [if_neg (by omega)]; omega
theorem cutS_sO {a : List Nat} {lo hi : Option Int} (h0 : 0 ≤ pLo lo) (h1 : pLo lo ≤ (a.length : Int)) (h2 : 0 ≤ pHi a.length hi) (h3 : pHi a.length hi ≤ (a.length : Int)) : cutS (sO a) lo hi = sO (cutN a (pLo lo) (pHi a.length hi)) := by
  unfold cutS cutN
  rw [sO_len, sIx_lo h0 h1, sIx_hi h2 h3]
  rfl
theorem cutV_ints {a : List Int} {lo hi : Option Int} (h0 : 0 ≤ pLo lo) (h1 : pLo lo ≤ (a.length : Int)) (h2 : 0 ≤ pHi a.length hi) (h3 : pHi a.length hi ≤ (a.length : Int)) : cutV (a.map V.int) lo hi = (cutI a (pLo lo) (pHi a.length hi)).map V.int := by
  unfold cutV cutI
  rw [List.length_map, sIx_lo h0 h1, sIx_hi h2 h3, List.map_take, List.map_drop]
theorem vslS {tl th : TO} {a : List Nat} {lo hi : Option Int} (ha : Val te σ H (.str (sO a))) (hl : VP tl σ H lo) (hh : VP th σ H hi) (hs : a.length ≤ 1000000) (h0 : 0 ≤ pLo lo) (h1 : pLo lo ≤ (a.length : Int)) (h2 : 0 ≤ pHi a.length hi) (h3 : pHi a.length hi ≤ (a.length : Int)) :
    Val (tSl rSlS te tl th) σ H (.str (sO (cutN a (pLo lo) (pHi a.length hi)))) := fun Q q => ha _ (hl _ (hh _ ⟨sO a, rfl, by rw [sO_len]; exact sz1 hs, by rw [cutS_sO h0 h1 h2 h3]; exact q⟩))
theorem r_slL {a : Addr} {xs : List Int} {lo hi : Option Int} {Q : VK} (hq : SqL K H a (xs.map V.int)) (h0 : 0 ≤ pLo lo) (h1 : pLo lo ≤ (xs.length : Int)) (h2 : 0 ≤ pHi xs.length hi) (h3 : pHi xs.length hi ≤ (xs.length : Int))
    (k : ∀ p, H p = none → Q (.ref p) (upd H p (.lst ((cutI xs (pLo lo) (pHi xs.length hi)).map V.int)))) : rSlL K (.ref a) lo hi H Q := ⟨a, _, rfl, hq, fun p np => by rw [cutV_ints h0 h1 h2 h3]; exact k p np⟩
end
end G
namespace G
open PySem PySem.Spec PyProof.Rows L2
theorem vin {K : PySem.W.Frag} {σ : L2.St} {H : Hp} {ta tb : TE} {ns : List Int} {i : Int} {p : Addr} (h : SqL K H p (ns.map V.int) ∨ SqT K H p (ns.map V.int)) (ha : Val ta σ H (.int i)) (hb : Val tb σ H (.ref p)) : Val (tOp (rIn K false) ta tb) σ H (.bl (decide (i ∈ ns))) := fun _ q => ha _ (hb _ (r_in h q))
theorem r_eqI {H : Hp} {a b : Int} {Q : VK} (k : Q (.bl (decide (a = b))) H) : rEq (.int a) (.int b) H Q := ⟨rfl, by rw [dec_eq_V V.int (fun _ _ e => V.int.inj e)]; exact k⟩
theorem r_neI {H : Hp} {a b : Int} {Q : VK} (k : Q (.bl (decide (a ≠ b))) H) : rNe (.int a) (.int b) H Q := ⟨rfl, by rw [dec_eq_V V.int (fun _ _ e => V.int.inj e), dec_not]; exact k⟩
theorem vnin {K : PySem.W.Frag} {σ : L2.St} {H : Hp} {ta tb : TE} {ns : List Int} {i : Int} {p : Addr} (h : SqL K H p (ns.map V.int) ∨ SqT K H p (ns.map V.int)) (ha : Val ta σ H (.int i)) (hb : Val tb σ H (.ref p)) : Val (tOp (rIn K true) ta tb) σ H (.bl (decide (¬ (i ∈ ns)))) := fun _ q => ha _ (hb _ (r_notin h q))
end G

local macro_rules | `(tactic| walk_at "side2") => `(tactic| first | (simp [G.cutN, G.rgI_len]; done) | (simp [G.cutN, G.rgI_len]; omega))
namespace X
open PySem PySem.Spec PyProof.Rows L2 G
def topS (i : Nat) : Stmt := PySem.Challenge.pw_segmentfs_k46_texts_as_octets.main.body.getD i (.Pass ⟨0, 0, 0, 0⟩)
abbrev st_is_code : Stmt := topS 4
abbrev st_is_text : Stmt := topS 5
abbrev st_octets_of : Stmt := topS 6
abbrev st_char_of : Stmt := topS 7
abbrev st_text_of : Stmt := topS 8
abbrev st__law_row : Stmt := topS 10
abbrev st__law_char : Stmt := topS 11
abbrev st__law_text : Stmt := topS 12
abbrev st__law_good : Stmt := topS 13
abbrev st_law : Stmt := topS 14
structure Ads where
  a_is_code : Addr
  d_is_code : FuncData
  a_is_text : Addr
  d_is_text : FuncData
  a_octets_of : Addr
  d_octets_of : FuncData
  a_char_of : Addr
  d_char_of : FuncData
  a_text_of : Addr
  d_text_of : FuncData
  a__law_row : Addr
  d__law_row : FuncData
  a__law_char : Addr
  d__law_char : FuncData
  a__law_text : Addr
  d__law_text : FuncData
  a__law_good : Addr
  d__law_good : FuncData
  a_law : Addr
  d_law : FuncData
  t_HIGH : Tok
  t_LOW : Tok
  t_PERCENT : Tok
structure Txt (K : PySem.W.Frag) (mg : Str → Option Value) (A : Ads) : Prop where
  F_is_code : Fun K "is_code" "is_code" st_is_code A.a_is_code A.d_is_code
  b_is_code : Binds K A.d_is_code ["code"] []
  g_is_code : mg "is_code" = some (.ref A.a_is_code)
  F_is_text : Fun K "is_text" "is_text" st_is_text A.a_is_text A.d_is_text
  b_is_text : Binds K A.d_is_text ["text"] []
  g_is_text : mg "is_text" = some (.ref A.a_is_text)
  F_octets_of : Fun K "octets_of" "octets_of" st_octets_of A.a_octets_of A.d_octets_of
  b_octets_of : Binds K A.d_octets_of ["text"] []
  g_octets_of : mg "octets_of" = some (.ref A.a_octets_of)
  F_char_of : Fun K "char_of" "char_of" st_char_of A.a_char_of A.d_char_of
  b_char_of : Binds K A.d_char_of ["code"] []
  g_char_of : mg "char_of" = some (.ref A.a_char_of)
  F_text_of : Fun K "text_of" "text_of" st_text_of A.a_text_of A.d_text_of
  b_text_of : Binds K A.d_text_of ["octets"] []
  g_text_of : mg "text_of" = some (.ref A.a_text_of)
  F__law_row : Fun K "_law_row" "_law_row" st__law_row A.a__law_row A.d__law_row
  b__law_row : Binds K A.d__law_row ["_law_script", "_law_k"] []
  g__law_row : mg "_law_row" = some (.ref A.a__law_row)
  F__law_char : Fun K "_law_char" "_law_char" st__law_char A.a__law_char A.d__law_char
  b__law_char : Binds K A.d__law_char ["_law_number"] []
  g__law_char : mg "_law_char" = some (.ref A.a__law_char)
  F__law_text : Fun K "_law_text" "_law_text" st__law_text A.a__law_text A.d__law_text
  b__law_text : Binds K A.d__law_text ["_law_number", "_law_count"] []
  g__law_text : mg "_law_text" = some (.ref A.a__law_text)
  F__law_good : Fun K "_law_good" "_law_good" st__law_good A.a__law_good A.d__law_good
  b__law_good : Binds K A.d__law_good ["_law_code"] []
  g__law_good : mg "_law_good" = some (.ref A.a__law_good)
  F_law : Fun K "law" "law" st_law A.a_law A.d_law
  b_law : Binds K A.d_law ["_law_script"] []
  g_law : mg "law" = some (.ref A.a_law)
  k_HIGH : mg "HIGH" = some (.str ("&'()*+,-./0123456789:;<=>?@ABCDEFGHIJKLMNOPQRSTUVWXYZ[\\]^_`abcdefghijklmnopqrstuvwxyz{|}~" : Str) A.t_HIGH)
  k_LOW : mg "LOW" = some (.str (" !\"#$" : Str) A.t_LOW)
  k_PERCENT : mg "PERCENT" = some (.int 37 A.t_PERCENT)
  z_all : mg "all" = none
  z_int : mg "int" = none
  z_isinstance : mg "isinstance" = none
  z_len : mg "len" = none
  z_list : mg "list" = none
  z_ord : mg "ord" = none
  z_range : mg "range" = none
  z_str : mg "str" = none
  z_tuple : mg "tuple" = none
theorem sc_is_code : FnScope ["code"] ["code"] (defScope st_is_code) := ⟨rfl, rfl, rfl, by decide +kernel, rfl, by decide +kernel, by decide +kernel⟩
theorem sc_is_text : FnScope ["text", "char"] ["text"] (defScope st_is_text) := ⟨rfl, rfl, rfl, by decide +kernel, rfl, by decide +kernel, by decide +kernel⟩
theorem sc_octets_of : FnScope ["text", "char"] ["text"] (defScope st_octets_of) := ⟨rfl, rfl, rfl, by decide +kernel, rfl, by decide +kernel, by decide +kernel⟩
theorem sc_char_of : FnScope ["code"] ["code"] (defScope st_char_of) := ⟨rfl, rfl, rfl, by decide +kernel, rfl, by decide +kernel, by decide +kernel⟩
theorem sc_text_of : FnScope ["octets", "chars", "code"] ["octets"] (defScope st_text_of) := ⟨rfl, rfl, rfl, by decide +kernel, rfl, by decide +kernel, by decide +kernel⟩
theorem sc__law_row : FnScope ["_law_script", "_law_k", "_law_cell", "_law_low", "_law_high"] ["_law_script", "_law_k"] (defScope st__law_row) := ⟨rfl, rfl, rfl, by decide +kernel, rfl, by decide +kernel, by decide +kernel⟩
theorem sc__law_char : FnScope ["_law_number", "_law_chars"] ["_law_number"] (defScope st__law_char) := ⟨rfl, rfl, rfl, by decide +kernel, rfl, by decide +kernel, by decide +kernel⟩
theorem sc__law_text : FnScope ["_law_number", "_law_count", "_law_text_here", "_law_k"] ["_law_number", "_law_count"] (defScope st__law_text) := ⟨rfl, rfl, rfl, by decide +kernel, rfl, by decide +kernel, by decide +kernel⟩
theorem sc__law_good : FnScope ["_law_code"] ["_law_code"] (defScope st__law_good) := ⟨rfl, rfl, rfl, by decide +kernel, rfl, by decide +kernel, by decide +kernel⟩
theorem sc_law : FnScope ["_law_script", "_law_number", "_law_text_here", "_law_octets", "_law_char_here", "_law_passed", "_law_back", "_law_at", "_law_row_here", "_law_code", "_law_good_here", "_law_k"] ["_law_script"] (defScope st_law) := ⟨rfl, rfl, rfl, by decide +kernel, rfl, by decide +kernel, by decide +kernel⟩

/-! ### mathematics of the law's helpers -/
def rwC0 (ns : List Int) (k : Int) : Int := if (ns.length : Int) > 0 then gi ns (k % (ns.length : Int)) else k
def rwC (ns : List Int) (k : Int) : Int := if rwC0 ns k < 0 then (-2) * rwC0 ns k - 1 else rwC0 ns k
def rwL (ns : List Int) (k : Int) : Int := (rwC ns k * 48271 + k * 69621 + 11) % 2147483647
def rwH (ns : List Int) (k : Int) : Int := (rwL ns k * 40692 + rwC ns k + k * 16807 + 5) % 2147483399
def rwM (ns : List Int) (k : Int) : Int := (rwL ns k * 69621 + rwH ns k * 7 + k) % 2147483647
def rowG (ns : List Int) (k : Int) : Int := if k < (ns.length : Int) ∧ rwC ns k ≥ 1000000000 then rwC ns k else rwH ns k * 2147483647 + rwM ns k
theorem rowG_nn (ns : List Int) (k : Int) : 0 ≤ rowG ns k := by
  unfold rowG
  split
  · omega
  · have h1 : 0 ≤ rwH ns k := Int.emod_nonneg _ (by decide)
    have h2 : 0 ≤ rwM ns k := Int.emod_nonneg _ (by decide)
    omega

/-! ### codes of texts -/
def Gd (c : Nat) : Prop := 32 ≤ c ∧ c ≤ 126 ∧ c ≠ 37
instance (c : Nat) : Decidable (Gd c) := by unfold Gd; infer_instance
def chs : List Nat := [32, 33, 34, 35, 36, 38, 39, 40, 41, 42, 43, 44, 45, 46, 47, 48, 49, 50, 51, 52, 53, 54, 55, 56, 57, 58, 59, 60, 61, 62, 63, 64, 65, 66, 67, 68, 69, 70, 71, 72, 73, 74, 75, 76, 77, 78, 79, 80, 81, 82, 83, 84, 85, 86, 87, 88, 89, 90, 91, 92, 93, 94, 95, 96, 97, 98, 99, 100, 101, 102, 103, 104, 105, 106, 107, 108, 109, 110, 111, 112, 113, 114, 115, 116, 117, 118, 119, 120, 121, 122, 123, 124, 125, 126]
theorem chs_gd : ∀ c ∈ chs, Gd c := by decide
def chF (n : Int) : Nat := gn chs (n % 94)
theorem chF_gd (n : Int) : Gd (chF n) := chs_gd _ (gn_mem (Int.emod_nonneg _ (by decide)) (by
  have h := Int.emod_lt_of_pos n (by decide : (0 : Int) < 94)
  have e : (chs.length : Int) = 94 := by decide
  omega))
theorem gd_app {xs : List Nat} {c : Nat} (h : ∀ d ∈ xs, Gd d) (hc : Gd c) : ∀ d ∈ xs ++ [c], Gd d := fun d hd => by
  rcases List.mem_append.mp hd with z | z
  · exact h d z
  · rw [List.mem_singleton.mp z]; exact hc

def GdI (n : Int) : Prop := 32 ≤ n ∧ n ≤ 126 ∧ n ≠ 37
instance (n : Int) : Decidable (GdI n) := by unfold GdI; infer_instance
theorem all_gd (t : List Nat) : (t.map (fun (c_ : Nat) => decide (((32 ≤ (c_ : Int)) ∧ ((c_ : Int) ≤ 126)) ∧ ((c_ : Int) ≠ 37)))).all id = decide (∀ c ∈ t, Gd c) := by
  induction t with
  | nil => rfl
  | cons c r ih =>
    rw [List.map_cons, List.all_cons, ih]
    have e : (32 ≤ (c : Int) ∧ (c : Int) ≤ 126) ∧ (c : Int) ≠ 37 ↔ Gd c := by unfold Gd; omega
    simp only [id, e, List.mem_cons, forall_eq_or_imp]
    by_cases h1 : Gd c <;> by_cases h2 : ∀ c ∈ r, Gd c <;> simp [h1, h2]
def lowC : List Nat := [32, 33, 34, 35, 36]
theorem low_ch {n : Int} (h0 : 32 ≤ n) (h1 : n < 37) : gn [32, 33, 34, 35, 36] (n - 32) = n.toNat := by
  have h : n = 32 ∨ n = 33 ∨ n = 34 ∨ n = 35 ∨ n = 36 := by omega
  rcases h with h | h | h | h | h <;> subst h <;> rfl
def hiC : List Nat := (List.range 89).map (· + 38)
theorem hiC_eq : [38, 39, 40, 41, 42, 43, 44, 45, 46, 47, 48, 49, 50, 51, 52, 53, 54, 55, 56, 57, 58, 59, 60, 61, 62, 63, 64, 65, 66, 67, 68, 69, 70, 71, 72, 73, 74, 75, 76, 77, 78, 79, 80, 81, 82, 83, 84, 85, 86, 87, 88, 89, 90, 91, 92, 93, 94, 95, 96, 97, 98, 99, 100, 101, 102, 103, 104, 105, 106, 107, 108, 109, 110, 111, 112, 113, 114, 115, 116, 117, 118, 119, 120, 121, 122, 123, 124, 125, 126] = hiC := by decide
theorem high_ch {n : Int} (h0 : 38 ≤ n) (h1 : n ≤ 126) : gn [38, 39, 40, 41, 42, 43, 44, 45, 46, 47, 48, 49, 50, 51, 52, 53, 54, 55, 56, 57, 58, 59, 60, 61, 62, 63, 64, 65, 66, 67, 68, 69, 70, 71, 72, 73, 74, 75, 76, 77, 78, 79, 80, 81, 82, 83, 84, 85, 86, 87, 88, 89, 90, 91, 92, 93, 94, 95, 96, 97, 98, 99, 100, 101, 102, 103, 104, 105, 106, 107, 108, 109, 110, 111, 112, 113, 114, 115, 116, 117, 118, 119, 120, 121, 122, 123, 124, 125, 126] (n - 37 - 1) = n.toNat := by
  rw [hiC_eq]
  have e : (n - 37 - 1).toNat < 89 := by omega
  unfold gn hiC
  rw [List.getD_eq_getElem?_getD, List.getElem?_map, List.getElem?_range e]
  show (n - 37 - 1).toNat + 38 = n.toNat
  omega
theorem mem_atI {xs : List Int} {i : Nat} {n : Int} (h : xs[i]? = some n) : n ∈ xs := List.mem_of_getElem? h
theorem take_nextI {xs : List Int} {i : Nat} {n : Int} (h : xs[i]? = some n) : xs.take (i + 1) = xs.take i ++ [n] := by
  rw [List.take_add_one, h]; rfl
theorem flat1 (ns : List Int) : (ns.map (fun n => [n.toNat])).flatten = ns.map Int.toNat := by
  induction ns with
  | nil => rfl
  | cons n r ih => rw [List.map_cons, List.flatten_cons, ih]; rfl
def TL (ns : List Int) : List V := ns.map fun n => V.str (sO [n.toNat])
theorem TL_app (a : List Int) (n : Int) : TL (a ++ [n]) = TL a ++ [V.str (sO [n.toNat])] := by unfold TL; rw [List.map_append]; rfl
theorem gd_map {t : List Nat} (h : ∀ c ∈ t, Gd c) : ∀ n ∈ t.map (fun (c_ : Nat) => (c_ : Int)), GdI n := by
  intro n hn
  obtain ⟨c, hc, rfl⟩ := List.mem_map.mp hn
  have := h c hc
  unfold Gd at this; unfold GdI; omega
theorem tn_map (t : List Nat) : (t.map (fun (c_ : Nat) => (c_ : Int))).map Int.toNat = t := by
  induction t with
  | nil => rfl
  | cons c r ih => rw [List.map_cons, List.map_cons, ih, Int.toNat_natCast]
theorem dec_nf {p : Prop} [Decidable p] (h : (!decide (decide p = false)) = true) : p := by
  by_cases hp : p
  · exact hp
  · rw [decide_eq_false hp] at h; cases h
theorem bad_mid {a b : List Nat} {n : Int} (h : ∀ c ∈ a ++ [gn [10, 9] (n % 2)] ++ b, Gd c) : False := by
  have hm := gn_mem (xs := [10, 9]) (i := n % 2) (Int.emod_nonneg _ (by decide)) (Int.emod_lt_of_pos _ (by decide))
  have hg := h (gn [10, 9] (n % 2)) (by simp)
  unfold Gd at hg
  simp only [List.mem_cons, List.not_mem_nil, or_false] at hm
  omega
theorem oct_back {l : List Int} (h : ∀ n ∈ l, GdI n) : (l.map Int.toNat).map (fun (c_ : Nat) => (c_ : Int)) = l := by
  induction l with
  | nil => rfl
  | cons n r ih =>
    have hn := h n List.mem_cons_self
    unfold GdI at hn
    rw [List.map_cons, List.map_cons, ih fun m hm => h m (List.mem_cons_of_mem _ hm), Int.toNat_of_nonneg (by omega)]
theorem oct_dead {l : List Int} (hg : ∀ n ∈ l, GdI n) (h : (!(PyData.eqv (.list (((l.map Int.toNat).map (fun (c_ : Nat) => (c_ : Int))).map PyData.int)) (.list (l.map PyData.int)))) = true) : False := by
  rw [oct_back hg, SeqAt.eqv_refl _ (SeqAt.canLay_of_shaped (shp_ints l))] at h
  cases h
theorem TL_eq (ns : List Int) : TL ns = ((ns.map (fun n => [n.toNat])).map sO).map V.str := by unfold TL; rw [List.map_map, List.map_map]; rfl

section
variable {P : Program} {w : World} {K : PySem.W.Frag} {mg : Str → Option Value} {base : Heap} {A : Ads}
def sp_is_code (K : PySem.W.Frag) (A : Ads) : Sp := fun vs H Q _ => ∃ (n : Int), vs = [V.int n] ∧ Q (V.bl (decide (((32 ≤ n) ∧ (n ≤ 126)) ∧ (n ≠ 37)))) H
theorem ok_is_code (T : Txt K mg A) : FnOk P w K mg base CX0 1 A.a_is_code A.d_is_code ["code"] (sp_is_code K A) := by
  refine T.F_is_code.ok sc_is_code (fun vs H Q E h => ?_) (fun cdv A' outer s H vs Q E hRm h => ?_)
  · obtain ⟨n, rfl, _⟩ := h
    rfl
  · obtain ⟨n, rfl, kq⟩ := h
    have hUn := hu_of hRm
    have s0 : Hs [] H [] H := Hs.start H
    refine ⟨_, (pss_cons (ps_ret (pe_and (pe_chain op_le op_le pe_int (pv 0) pe_int) (pe_one (pe_cmpR op_ne (pv 0) (pe_glob (v := .int 37) (by rfl) T.k_PERCENT (by exact ⟨_, rfl⟩)) (nomark _))))) pss_nil), ?_⟩
    refine c_sig [some (V.int n)] rfl ?_
    refine s_ret (vand (vchain (p := 32 ≤ n) (q := n ≤ 126) vc (vv 0 rfl) vc (fun _ q => r0 _ q) (fun _ q => r0 _ q)) (fun hc => (vne (vv 0 rfl) vc))) ?_
    exact fin kq (by rfl)
def sp_is_text (K : PySem.W.Frag) (A : Ads) : Sp := fun vs H Q _ => ∃ (t : List Nat), vs = [V.str (sO t)] ∧ (t.length ≤ 10000) ∧ ∀  (H' : Hp), Hs [] H [] H' → Q (V.bl (decide (∀ c ∈ t, Gd c))) H'
theorem ok_is_text (T : Txt K mg A) : FnOk P w K mg base CX0 2 A.a_is_text A.d_is_text ["text"] (sp_is_text K A) := by
  have G_is_code : FnOk P w K mg base CX0 1 A.a_is_code A.d_is_code ["code"] (sp_is_code K A) := ok_is_code T
  refine T.F_is_text.ok sc_is_text (fun vs H Q E h => ?_) (fun cdv A' outer s H vs Q E hRm h => ?_)
  · obtain ⟨t, rfl, _⟩ := h
    rfl
  · obtain ⟨t, rfl, hl, kq⟩ := h
    have hUn := hu_of hRm
    have s0 : Hs [] H [] H := Hs.start H
    refine ⟨_, (pss_cons (ps_ret (pe_callB (cr_all rfl) (by rfl) T.z_all (by decide +kernel) (pa_cons (pe_lc (own := [("char", 1)]) (g := gName 1) (tt := tYes) rfl sc_is_text.nd (pi_str (pv 0)) (blkOk_by (N := ["text", "char"]) (sc := defScope st_is_text) (by decide +kernel)) (fun _ _ _ _ _ => pg_name (i := 1) sc_is_text.nd rfl (Or.inl rfl)) (fun _ _ _ _ _ => pts_nil) (fun _ _ _ _ _ => (pe_call G_is_code (hRm.mono (by decide)) (by rfl) T.g_is_code T.F_is_code.kp T.b_is_code .nil pass0 (pa_cons (pe_callB call_ord (by rfl) T.z_ord (by decide +kernel) (pa_cons (pv 1) pa_nil)) pa_nil)))) pa_nil))) pss_nil), ?_⟩
    refine c_sig [some (V.str (sO t)), none] rfl ?_
    refine c_ret ?_
    refine c_cb ?_
    refine c_cons ?_
    refine c_lcS (a := t) (fun (c5 : Nat) => V.bl (decide (((32 ≤ (c5 : Int)) ∧ ((c5 : Int) ≤ 126)) ∧ ((c5 : Int) ≠ 37)))) s0 (vv 0 rfl) (by walk_at "side") (fun _ => rfl) (fun i1 c5 H4 h3 s2 => (vcall (va (vord (vv 1 rfl)) va0) (fun _ kC => ⟨(c5 : Int), rfl, kC⟩))) (fun p6 H8 s9 => ?_)
    have s7 : Hs [] H [(p6, .lst ((t.map (fun (c_ : Nat) => decide (((32 ≤ (c_ : Int)) ∧ ((c_ : Int) ≤ 126)) ∧ ((c_ : Int) ≠ 37)))).map V.bl))] _ := s9.top (congrArg HO.lst (map_comp_V (fun (c_ : Nat) => decide (((32 ≤ (c_ : Int)) ∧ ((c_ : Int) ≤ 126)) ∧ ((c_ : Int) ≠ 37))) V.bl t))
    refine c_nil ?_
    refine ⟨_, (t.map (fun (c_ : Nat) => decide (((32 ≤ (c_ : Int)) ∧ ((c_ : Int) ≤ 126)) ∧ ((c_ : Int) ≠ 37)))), rfl, (s7.l 0 rfl), ?_⟩
    have s10 : Hs [] H [] _ := (s7.pick [] (by decide) (by walk_at "finL"))
    exact fin (kq  _ s10 ) (by exact congrArg V.bl (all_gd _))
def sp_octets_of (K : PySem.W.Frag) (A : Ads) : Sp := fun vs H Q _ => ∃ (t : List Nat), vs = [V.str (sO t)] ∧ (t.length ≤ 10000) ∧ ∀ (p : Addr) (H' : Hp), Hs [] H [(p, .lst ((t.map (fun (c_ : Nat) => (c_ : Int))).map V.int))] H' → Q (V.ref p) H'
theorem ok_octets_of (T : Txt K mg A) : FnOk P w K mg base CX0 1 A.a_octets_of A.d_octets_of ["text"] (sp_octets_of K A) := by
  refine T.F_octets_of.ok sc_octets_of (fun vs H Q E h => ?_) (fun cdv A' outer s H vs Q E hRm h => ?_)
  · obtain ⟨t, rfl, _⟩ := h
    rfl
  · obtain ⟨t, rfl, hl, kq⟩ := h
    have hUn := hu_of hRm
    have s0 : Hs [] H [] H := Hs.start H
    refine ⟨_, (pss_cons (ps_ret (pe_lc (own := [("char", 1)]) (g := gName 1) (tt := tYes) rfl sc_octets_of.nd (pi_str (pv 0)) (blkOk_by (N := ["text", "char"]) (sc := defScope st_octets_of) (by decide +kernel)) (fun _ _ _ _ _ => pg_name (i := 1) sc_octets_of.nd rfl (Or.inl rfl)) (fun _ _ _ _ _ => pts_nil) (fun _ _ _ _ _ => (pe_callB call_ord (by rfl) T.z_ord (by decide +kernel) (pa_cons (pv 1) pa_nil))))) pss_nil), ?_⟩
    refine c_sig [some (V.str (sO t)), none] rfl ?_
    refine c_ret ?_
    refine c_lcS (a := t) (fun (c5 : Nat) => V.int (c5 : Int)) s0 (vv 0 rfl) (by walk_at "side") (fun _ => rfl) (fun i1 c5 H4 h3 s2 => (vord (vv 1 rfl))) (fun p6 H8 s9 => ?_)
    have s7 : Hs [] H [(p6, .lst ((t.map (fun (c_ : Nat) => (c_ : Int))).map V.int))] _ := s9.top (congrArg HO.lst (map_comp_V (fun (c_ : Nat) => (c_ : Int)) V.int t))
    have s10 : Hs [] H [(p6, .lst ((t.map (fun (c_ : Nat) => (c_ : Int))).map V.int))] _ := (s7.pick [0] (by decide) (by walk_at "finL"))
    exact fin (kq p6 _ s10 ) (by rfl)
def sp_char_of (K : PySem.W.Frag) (A : Ads) : Sp := fun vs H Q _ => ∃ (n : Int), vs = [V.int n] ∧ (32 ≤ n) ∧ (n ≤ 126) ∧ (n ≠ 37) ∧ Q (V.str (sO ([n.toNat]))) H
theorem ok_char_of (T : Txt K mg A) : FnOk P w K mg base CX0 1 A.a_char_of A.d_char_of ["code"] (sp_char_of K A) := by
  refine T.F_char_of.ok sc_char_of (fun vs H Q E h => ?_) (fun cdv A' outer s H vs Q E hRm h => ?_)
  · obtain ⟨n, rfl, _⟩ := h
    rfl
  · obtain ⟨n, rfl, h0, h1, h2, kq⟩ := h
    have hUn := hu_of hRm
    have s0 : Hs [] H [] H := Hs.start H
    refine ⟨_, (pss_cons (ps_if (pt_cmpR op_lt (pv 0) (pe_glob (v := .int 37) (by rfl) T.k_PERCENT (by exact ⟨_, rfl⟩)) (nomark _)) (pss_cons (ps_ret (pe_ix ix_str (pe_glob (v := .str (" !\"#$" : Str)) (by rfl) T.k_LOW (by exact ⟨_, rfl⟩)) (pe_op op_sub (pv 0) pe_int) (fun _ _ => rfl))) pss_nil) pss_nil) (pss_cons (ps_ret (pe_ix ix_str (pe_glob (v := .str ("&'()*+,-./0123456789:;<=>?@ABCDEFGHIJKLMNOPQRSTUVWXYZ[\\]^_`abcdefghijklmnopqrstuvwxyz{|}~" : Str)) (by rfl) T.k_HIGH (by exact ⟨_, rfl⟩)) (pe_op op_sub (pe_op op_sub (pv 0) (pe_glob (v := .int 37) (by rfl) T.k_PERCENT (by exact ⟨_, rfl⟩))) pe_int) (fun _ _ => rfl))) pss_nil)), ?_⟩
    refine c_sig [some (V.int n)] rfl ?_
    refine s_if (p := n < 37) (vtest (v0 (g := fun i j => .bl (decide (i < j))) (vv 0 rfl) vc)) (fun h1 => ?_) (fun h1 => ?_)
    · -- then line 12
      refine s_ret (vixS (a := ([32, 33, 34, 35, 36])) (by walk_at "side") (at_gn (by walk_at "side") (by walk_at "side")) (vis vc (w := .str (sO ([32, 33, 34, 35, 36]))) (congrArg V.str (by decide +kernel))) (v0 (g := fun i j => .int (i - j)) (vv 0 rfl) vc)) ?_
      exact fin kq (by first | exact congrArg (fun c => V.str (sO [c])) (low_ch (by omega) (by omega)) | exact congrArg (fun c => V.str (sO [c])) (high_ch (by omega) (by omega)))
    · -- else line 12
      refine s_nxs ?_
      refine s_ret (vixS (a := ([38, 39, 40, 41, 42, 43, 44, 45, 46, 47, 48, 49, 50, 51, 52, 53, 54, 55, 56, 57, 58, 59, 60, 61, 62, 63, 64, 65, 66, 67, 68, 69, 70, 71, 72, 73, 74, 75, 76, 77, 78, 79, 80, 81, 82, 83, 84, 85, 86, 87, 88, 89, 90, 91, 92, 93, 94, 95, 96, 97, 98, 99, 100, 101, 102, 103, 104, 105, 106, 107, 108, 109, 110, 111, 112, 113, 114, 115, 116, 117, 118, 119, 120, 121, 122, 123, 124, 125, 126])) (by walk_at "side") (at_gn (by walk_at "side") (by walk_at "side")) (vis vc (w := .str (sO ([38, 39, 40, 41, 42, 43, 44, 45, 46, 47, 48, 49, 50, 51, 52, 53, 54, 55, 56, 57, 58, 59, 60, 61, 62, 63, 64, 65, 66, 67, 68, 69, 70, 71, 72, 73, 74, 75, 76, 77, 78, 79, 80, 81, 82, 83, 84, 85, 86, 87, 88, 89, 90, 91, 92, 93, 94, 95, 96, 97, 98, 99, 100, 101, 102, 103, 104, 105, 106, 107, 108, 109, 110, 111, 112, 113, 114, 115, 116, 117, 118, 119, 120, 121, 122, 123, 124, 125, 126]))) (congrArg V.str (by decide +kernel))) (v0 (g := fun i j => .int (i - j)) (v0 (g := fun i j => .int (i - j)) (vv 0 rfl) vc) vc)) ?_
      exact fin kq (by first | exact congrArg (fun c => V.str (sO [c])) (low_ch (by omega) (by omega)) | exact congrArg (fun c => V.str (sO [c])) (high_ch (by omega) (by omega)))
def sp_text_of_0 (K : PySem.W.Frag) (A : Ads) : Sp := fun vs H Q _ => ∃ (a : Addr) (ns : List Int), vs = [V.ref a] ∧ (SqL K H a (ns.map V.int)) ∧ (ns.length ≤ 10000) ∧ (∀ n ∈ ns, GdI n) ∧ ∀  (H' : Hp), Hs [] H [] H' → Q (V.str (sO (ns.map Int.toNat))) H'
def sp_text_of_1 (K : PySem.W.Frag) (A : Ads) : Sp := fun vs H Q _ => ∃ (a : Addr) (ns : List Int), vs = [V.ref a] ∧ (SqL K H a (ns.map V.int)) ∧ (ns.length ≤ 10000) ∧ (¬ ∀ n ∈ ns, GdI n) ∧ ∀  (H' : Hp), Hs [] H [] H' → Q (V.non) H'
def sp_text_of_2 (K : PySem.W.Frag) (A : Ads) : Sp := fun vs H Q _ => ∃ (a : Addr) (ns : List Int), vs = [V.ref a] ∧ (SqT K H a (ns.map V.int)) ∧ (ns.length ≤ 10000) ∧ (∀ n ∈ ns, GdI n) ∧ ∀  (H' : Hp), Hs [] H [] H' → Q (V.str (sO (ns.map Int.toNat))) H'
def sp_text_of_3 (K : PySem.W.Frag) (A : Ads) : Sp := fun vs H Q _ => ∃ (a : Addr) (ns : List Int), vs = [V.ref a] ∧ (SqT K H a (ns.map V.int)) ∧ (ns.length ≤ 10000) ∧ (¬ ∀ n ∈ ns, GdI n) ∧ ∀  (H' : Hp), Hs [] H [] H' → Q (V.non) H'
def sp_text_of (K : PySem.W.Frag) (A : Ads) : Sp := fun vs H Q E => sp_text_of_0 K A vs H Q E ∨ sp_text_of_1 K A vs H Q E ∨ sp_text_of_2 K A vs H Q E ∨ sp_text_of_3 K A vs H Q E
theorem ok_text_of (T : Txt K mg A) : FnOk P w K mg base CX0 2 A.a_text_of A.d_text_of ["octets"] (sp_text_of K A) := by
  have G_is_code : FnOk P w K mg base CX0 1 A.a_is_code A.d_is_code ["code"] (sp_is_code K A) := ok_is_code T
  have G_char_of : FnOk P w K mg base CX0 1 A.a_char_of A.d_char_of ["code"] (sp_char_of K A) := ok_char_of T
  refine T.F_text_of.ok sc_text_of (fun vs H Q E h => ?_) (fun cdv A' outer s H vs Q E hRm h => ?_)
  · rcases h with h | h | h | h
    · obtain ⟨a, ns, rfl, _⟩ := h
      rfl
    · obtain ⟨a, ns, rfl, _⟩ := h
      rfl
    · obtain ⟨a, ns, rfl, _⟩ := h
      rfl
    · obtain ⟨a, ns, rfl, _⟩ := h
      rfl
  · rcases h with h | h | h | h
    · obtain ⟨a, ns, rfl, hS, hl, hg, kq⟩ := h
      have hUn := hu_of hRm
      have s0 : Hs [] H [] H := Hs.start H
      refine ⟨_, (pss_cons (ps_set (i := 1) sc_text_of.nd rfl (.inl rfl) (pe_lst pa_nil)) (pss_cons (ps_for PassesOwn.never rfl (pi_list (pv 0)) (pg_name (i := 2) sc_text_of.nd rfl (.inl rfl)) (pss_cons (ps_if (pt_not (pt_val (pe_call G_is_code (hRm.mono (by decide)) (by rfl) T.g_is_code T.F_is_code.kp T.b_is_code .nil pass0 (pa_cons (pv 2) pa_nil)) (fun _ => rfl))) (pss_cons (ps_ret pe_non) pss_nil) pss_nil) (pss_cons (ps_expr (pe_bm PySem.F.plainAttrs_list PySem.F.slot_list_append PySem.F.type_list_append mt_append (pv 1) (pa_cons (pe_call G_char_of (hRm.mono (by decide)) (by rfl) T.g_char_of T.F_char_of.kp T.b_char_of .nil pass0 (pa_cons (pv 2) pa_nil)) pa_nil))) pss_nil))) (pss_cons (ps_ret (pe_join pe_str (pv 1))) pss_nil))), ?_⟩
      refine c_sig [some (V.ref a), none, none] rfl ?_
      refine c_set ?_
      refine c_lst ?_
      refine c_nil ?_
      refine ⟨sz1 (by show 0 ≤ 1000000; decide), fun p1 np1 => ?_⟩
      have s2 : Hs [] H [(p1, .lst ([]))] _ := s0.new np1 (.lst ([]))
      refine k_set [some (V.ref a), some (V.ref p1), none] rfl ?_
      refine s_forL (vv 0 rfl) (s2.sq hS) (fun i3 σ' H' => ∃ (y_code : Option V) (ws : List V), σ' = [some (V.ref a), some (V.ref p1), y_code] ∧ Hs [] H [(p1, .lst (ws))] H' ∧ (ws = TL (ns.take i3)) ∧ (∀ n ∈ ns.take i3, GdI n)) ?_ ?_ ?_ ?_
      · -- start
        refine ⟨_, [], rfl, s2.pick [0] (by decide) (by walk_at "finL"), ?_, ?_⟩
        · rfl
        · intro n hn; cases hn
      · intro i3 σ' H' _ hP; obtain ⟨y_code, ws, rfl, sI, hI0, hI1⟩ := hP
        exact sI.sq hS
      · intro i3 x5 σ' H' h4 hP; obtain ⟨y_code, ws, rfl, sI, hI0, hI1⟩ := hP
        obtain ⟨n6, rfl, h4n⟩ := map_int_get h4
        refine c_sig [some (V.ref a), some (V.ref p1), some (V.int n6)] rfl ?_
        have hLw : ws.length ≤ 10000 := by rw [hI0]; unfold TL; rw [List.length_map, List.length_take]; omega
        refine s_if (p := ¬ (((32 ≤ n6) ∧ (n6 ≤ 126)) ∧ (n6 ≠ 37))) (anot (vB (vcall (va (vv 2 rfl) va0) (fun _ kC => ⟨n6, rfl, kC⟩)))) (fun h7 => ?_) (fun h7 => ?_)
        · -- then line 18
          refine s_ret vc ?_
          exfalso; have hgn := hg _ (mem_atI (by assumption)); unfold GdI at hgn; omega
        · -- else line 18
          refine s_nxs ?_
          refine s_app (xs := ws) (sI.mem 0 rfl) (vv 1 rfl) (vcall (va (vv 2 rfl) va0) (fun _ kC => ⟨n6, rfl, (by walk_at "side"), (by walk_at "side"), (by walk_at "side"), kC⟩)) (by walk_at "side") ?_
          have s8 : Hs [] H [(p1, .lst (ws ++ [V.str (sO ([n6.toNat]))]))] _ := sI.wr 0 (.lst (ws ++ [V.str (sO ([n6.toNat]))])) rfl
          refine s_nx ?_
          refine ⟨_, ws ++ [V.str (sO ([n6.toNat]))], rfl, s8.pick [0] (by decide) (by walk_at "finL"), ?_, ?_⟩
          · rw [take_nextI h4n, TL_app, ← hI0]
          · rw [take_nextI h4n]; intro m hm; rcases List.mem_append.mp hm with z | z
            · exact hI1 m z
            · rw [List.mem_singleton.mp z]; unfold GdI; omega
      · intro σ' H' hP; obtain ⟨y_code, ws, rfl, sI, hI0, hI1⟩ := hP
        refine c_ret ?_
        refine c_m1 ?_
        refine (vis vc (w := .str (sO ([] : List Nat))) (congrArg V.str (by decide +kernel))) _ ?_
        refine ⟨⟨_, rfl⟩, ?_⟩
        refine (vv 1 rfl) _ ?_
        refine r_join (ws := ns.map (fun n => [n.toNat])) ((show ws = ((ns.map (fun n => [n.toNat])).map sO).map V.str from by rw [hI0, List.take_of_length_le (by simp)]; exact TL_eq ns) ▸ (sI.l 0 rfl)) (by rw [flat1, List.length_map]; omega) ?_
        have s9 : Hs [] H [] _ := (sI.pick [] (by decide) (by walk_at "finL"))
        exact fin (kq  _ s9 ) (by first | rfl | exact congrArg (fun c => V.str (sO c)) (flat1 ns))
    · obtain ⟨a, ns, rfl, hS, hl, hb, kq⟩ := h
      have hUn := hu_of hRm
      have s0 : Hs [] H [] H := Hs.start H
      refine ⟨_, (pss_cons (ps_set (i := 1) sc_text_of.nd rfl (.inl rfl) (pe_lst pa_nil)) (pss_cons (ps_for PassesOwn.never rfl (pi_list (pv 0)) (pg_name (i := 2) sc_text_of.nd rfl (.inl rfl)) (pss_cons (ps_if (pt_not (pt_val (pe_call G_is_code (hRm.mono (by decide)) (by rfl) T.g_is_code T.F_is_code.kp T.b_is_code .nil pass0 (pa_cons (pv 2) pa_nil)) (fun _ => rfl))) (pss_cons (ps_ret pe_non) pss_nil) pss_nil) (pss_cons (ps_expr (pe_bm PySem.F.plainAttrs_list PySem.F.slot_list_append PySem.F.type_list_append mt_append (pv 1) (pa_cons (pe_call G_char_of (hRm.mono (by decide)) (by rfl) T.g_char_of T.F_char_of.kp T.b_char_of .nil pass0 (pa_cons (pv 2) pa_nil)) pa_nil))) pss_nil))) (pss_cons ps_never pss_nil))), ?_⟩
      refine c_sig [some (V.ref a), none, none] rfl ?_
      refine c_set ?_
      refine c_lst ?_
      refine c_nil ?_
      refine ⟨sz1 (by show 0 ≤ 1000000; decide), fun p10 np10 => ?_⟩
      have s11 : Hs [] H [(p10, .lst ([]))] _ := s0.new np10 (.lst ([]))
      refine k_set [some (V.ref a), some (V.ref p10), none] rfl ?_
      refine s_forL (vv 0 rfl) (s11.sq hS) (fun i12 σ' H' => ∃ (y_code : Option V) (ws : List V), σ' = [some (V.ref a), some (V.ref p10), y_code] ∧ Hs [] H [(p10, .lst (ws))] H' ∧ (ws = TL (ns.take i12)) ∧ (∀ n ∈ ns.take i12, GdI n)) ?_ ?_ ?_ ?_
      · -- start
        refine ⟨_, [], rfl, s11.pick [0] (by decide) (by walk_at "finL"), ?_, ?_⟩
        · rfl
        · intro n hn; cases hn
      · intro i12 σ' H' _ hP; obtain ⟨y_code, ws, rfl, sI, hI0, hI1⟩ := hP
        exact sI.sq hS
      · intro i12 x14 σ' H' h13 hP; obtain ⟨y_code, ws, rfl, sI, hI0, hI1⟩ := hP
        obtain ⟨n15, rfl, h13n⟩ := map_int_get h13
        refine c_sig [some (V.ref a), some (V.ref p10), some (V.int n15)] rfl ?_
        have hLw : ws.length ≤ 10000 := by rw [hI0]; unfold TL; rw [List.length_map, List.length_take]; omega
        refine s_if (p := ¬ (((32 ≤ n15) ∧ (n15 ≤ 126)) ∧ (n15 ≠ 37))) (anot (vB (vcall (va (vv 2 rfl) va0) (fun _ kC => ⟨n15, rfl, kC⟩)))) (fun h16 => ?_) (fun h16 => ?_)
        · -- then line 18
          refine s_ret vc ?_
          have s17 : Hs [] H [] _ := (sI.pick [] (by decide) (by walk_at "finL"))
          exact fin (kq  _ s17 ) (by first | rfl | exact congrArg (fun c => V.str (sO c)) (flat1 ns))
        · -- else line 18
          refine s_nxs ?_
          refine s_app (xs := ws) (sI.mem 0 rfl) (vv 1 rfl) (vcall (va (vv 2 rfl) va0) (fun _ kC => ⟨n15, rfl, (by walk_at "side"), (by walk_at "side"), (by walk_at "side"), kC⟩)) (by walk_at "side") ?_
          have s18 : Hs [] H [(p10, .lst (ws ++ [V.str (sO ([n15.toNat]))]))] _ := sI.wr 0 (.lst (ws ++ [V.str (sO ([n15.toNat]))])) rfl
          refine s_nx ?_
          refine ⟨_, ws ++ [V.str (sO ([n15.toNat]))], rfl, s18.pick [0] (by decide) (by walk_at "finL"), ?_, ?_⟩
          · rw [take_nextI h13n, TL_app, ← hI0]
          · rw [take_nextI h13n]; intro m hm; rcases List.mem_append.mp hm with z | z
            · exact hI1 m z
            · rw [List.mem_singleton.mp z]; unfold GdI; omega
      · intro σ' H' hP; obtain ⟨y_code, ws, rfl, sI, hI0, hI1⟩ := hP
        rw [List.take_of_length_le (by simp)] at hI1; exact absurd hI1 hb
    · obtain ⟨a, ns, rfl, hS, hl, hg, kq⟩ := h
      have hUn := hu_of hRm
      have s0 : Hs [] H [] H := Hs.start H
      refine ⟨_, (pss_cons (ps_set (i := 1) sc_text_of.nd rfl (.inl rfl) (pe_lst pa_nil)) (pss_cons (ps_for PassesOwn.never rfl (pi_tup (pv 0)) (pg_name (i := 2) sc_text_of.nd rfl (.inl rfl)) (pss_cons (ps_if (pt_not (pt_val (pe_call G_is_code (hRm.mono (by decide)) (by rfl) T.g_is_code T.F_is_code.kp T.b_is_code .nil pass0 (pa_cons (pv 2) pa_nil)) (fun _ => rfl))) (pss_cons (ps_ret pe_non) pss_nil) pss_nil) (pss_cons (ps_expr (pe_bm PySem.F.plainAttrs_list PySem.F.slot_list_append PySem.F.type_list_append mt_append (pv 1) (pa_cons (pe_call G_char_of (hRm.mono (by decide)) (by rfl) T.g_char_of T.F_char_of.kp T.b_char_of .nil pass0 (pa_cons (pv 2) pa_nil)) pa_nil))) pss_nil))) (pss_cons (ps_ret (pe_join pe_str (pv 1))) pss_nil))), ?_⟩
      refine c_sig [some (V.ref a), none, none] rfl ?_
      refine c_set ?_
      refine c_lst ?_
      refine c_nil ?_
      refine ⟨sz1 (by show 0 ≤ 1000000; decide), fun p19 np19 => ?_⟩
      have s20 : Hs [] H [(p19, .lst ([]))] _ := s0.new np19 (.lst ([]))
      refine k_set [some (V.ref a), some (V.ref p19), none] rfl ?_
      refine s_forT (vv 0 rfl) (s20.sqt hS) (fun i21 σ' H' => ∃ (y_code : Option V) (ws : List V), σ' = [some (V.ref a), some (V.ref p19), y_code] ∧ Hs [] H [(p19, .lst (ws))] H' ∧ (ws = TL (ns.take i21)) ∧ (∀ n ∈ ns.take i21, GdI n)) ?_ ?_ ?_ ?_
      · -- start
        refine ⟨_, [], rfl, s20.pick [0] (by decide) (by walk_at "finL"), ?_, ?_⟩
        · rfl
        · intro n hn; cases hn
      · intro i21 σ' H' _ hP; obtain ⟨y_code, ws, rfl, sI, hI0, hI1⟩ := hP
        exact sI.sqt hS
      · intro i21 x23 σ' H' h22 hP; obtain ⟨y_code, ws, rfl, sI, hI0, hI1⟩ := hP
        obtain ⟨n24, rfl, h22n⟩ := map_int_get h22
        refine c_sig [some (V.ref a), some (V.ref p19), some (V.int n24)] rfl ?_
        have hLw : ws.length ≤ 10000 := by rw [hI0]; unfold TL; rw [List.length_map, List.length_take]; omega
        refine s_if (p := ¬ (((32 ≤ n24) ∧ (n24 ≤ 126)) ∧ (n24 ≠ 37))) (anot (vB (vcall (va (vv 2 rfl) va0) (fun _ kC => ⟨n24, rfl, kC⟩)))) (fun h25 => ?_) (fun h25 => ?_)
        · -- then line 18
          refine s_ret vc ?_
          exfalso; have hgn := hg _ (mem_atI (by assumption)); unfold GdI at hgn; omega
        · -- else line 18
          refine s_nxs ?_
          refine s_app (xs := ws) (sI.mem 0 rfl) (vv 1 rfl) (vcall (va (vv 2 rfl) va0) (fun _ kC => ⟨n24, rfl, (by walk_at "side"), (by walk_at "side"), (by walk_at "side"), kC⟩)) (by walk_at "side") ?_
          have s26 : Hs [] H [(p19, .lst (ws ++ [V.str (sO ([n24.toNat]))]))] _ := sI.wr 0 (.lst (ws ++ [V.str (sO ([n24.toNat]))])) rfl
          refine s_nx ?_
          refine ⟨_, ws ++ [V.str (sO ([n24.toNat]))], rfl, s26.pick [0] (by decide) (by walk_at "finL"), ?_, ?_⟩
          · rw [take_nextI h22n, TL_app, ← hI0]
          · rw [take_nextI h22n]; intro m hm; rcases List.mem_append.mp hm with z | z
            · exact hI1 m z
            · rw [List.mem_singleton.mp z]; unfold GdI; omega
      · intro σ' H' hP; obtain ⟨y_code, ws, rfl, sI, hI0, hI1⟩ := hP
        refine c_ret ?_
        refine c_m1 ?_
        refine (vis vc (w := .str (sO ([] : List Nat))) (congrArg V.str (by decide +kernel))) _ ?_
        refine ⟨⟨_, rfl⟩, ?_⟩
        refine (vv 1 rfl) _ ?_
        refine r_join (ws := ns.map (fun n => [n.toNat])) ((show ws = ((ns.map (fun n => [n.toNat])).map sO).map V.str from by rw [hI0, List.take_of_length_le (by simp)]; exact TL_eq ns) ▸ (sI.l 0 rfl)) (by rw [flat1, List.length_map]; omega) ?_
        have s27 : Hs [] H [] _ := (sI.pick [] (by decide) (by walk_at "finL"))
        exact fin (kq  _ s27 ) (by first | rfl | exact congrArg (fun c => V.str (sO c)) (flat1 ns))
    · obtain ⟨a, ns, rfl, hS, hl, hb, kq⟩ := h
      have hUn := hu_of hRm
      have s0 : Hs [] H [] H := Hs.start H
      refine ⟨_, (pss_cons (ps_set (i := 1) sc_text_of.nd rfl (.inl rfl) (pe_lst pa_nil)) (pss_cons (ps_for PassesOwn.never rfl (pi_tup (pv 0)) (pg_name (i := 2) sc_text_of.nd rfl (.inl rfl)) (pss_cons (ps_if (pt_not (pt_val (pe_call G_is_code (hRm.mono (by decide)) (by rfl) T.g_is_code T.F_is_code.kp T.b_is_code .nil pass0 (pa_cons (pv 2) pa_nil)) (fun _ => rfl))) (pss_cons (ps_ret pe_non) pss_nil) pss_nil) (pss_cons (ps_expr (pe_bm PySem.F.plainAttrs_list PySem.F.slot_list_append PySem.F.type_list_append mt_append (pv 1) (pa_cons (pe_call G_char_of (hRm.mono (by decide)) (by rfl) T.g_char_of T.F_char_of.kp T.b_char_of .nil pass0 (pa_cons (pv 2) pa_nil)) pa_nil))) pss_nil))) (pss_cons ps_never pss_nil))), ?_⟩
      refine c_sig [some (V.ref a), none, none] rfl ?_
      refine c_set ?_
      refine c_lst ?_
      refine c_nil ?_
      refine ⟨sz1 (by show 0 ≤ 1000000; decide), fun p28 np28 => ?_⟩
      have s29 : Hs [] H [(p28, .lst ([]))] _ := s0.new np28 (.lst ([]))
      refine k_set [some (V.ref a), some (V.ref p28), none] rfl ?_
      refine s_forT (vv 0 rfl) (s29.sqt hS) (fun i30 σ' H' => ∃ (y_code : Option V) (ws : List V), σ' = [some (V.ref a), some (V.ref p28), y_code] ∧ Hs [] H [(p28, .lst (ws))] H' ∧ (ws = TL (ns.take i30)) ∧ (∀ n ∈ ns.take i30, GdI n)) ?_ ?_ ?_ ?_
      · -- start
        refine ⟨_, [], rfl, s29.pick [0] (by decide) (by walk_at "finL"), ?_, ?_⟩
        · rfl
        · intro n hn; cases hn
      · intro i30 σ' H' _ hP; obtain ⟨y_code, ws, rfl, sI, hI0, hI1⟩ := hP
        exact sI.sqt hS
      · intro i30 x32 σ' H' h31 hP; obtain ⟨y_code, ws, rfl, sI, hI0, hI1⟩ := hP
        obtain ⟨n33, rfl, h31n⟩ := map_int_get h31
        refine c_sig [some (V.ref a), some (V.ref p28), some (V.int n33)] rfl ?_
        have hLw : ws.length ≤ 10000 := by rw [hI0]; unfold TL; rw [List.length_map, List.length_take]; omega
        refine s_if (p := ¬ (((32 ≤ n33) ∧ (n33 ≤ 126)) ∧ (n33 ≠ 37))) (anot (vB (vcall (va (vv 2 rfl) va0) (fun _ kC => ⟨n33, rfl, kC⟩)))) (fun h34 => ?_) (fun h34 => ?_)
        · -- then line 18
          refine s_ret vc ?_
          have s35 : Hs [] H [] _ := (sI.pick [] (by decide) (by walk_at "finL"))
          exact fin (kq  _ s35 ) (by first | rfl | exact congrArg (fun c => V.str (sO c)) (flat1 ns))
        · -- else line 18
          refine s_nxs ?_
          refine s_app (xs := ws) (sI.mem 0 rfl) (vv 1 rfl) (vcall (va (vv 2 rfl) va0) (fun _ kC => ⟨n33, rfl, (by walk_at "side"), (by walk_at "side"), (by walk_at "side"), kC⟩)) (by walk_at "side") ?_
          have s36 : Hs [] H [(p28, .lst (ws ++ [V.str (sO ([n33.toNat]))]))] _ := sI.wr 0 (.lst (ws ++ [V.str (sO ([n33.toNat]))])) rfl
          refine s_nx ?_
          refine ⟨_, ws ++ [V.str (sO ([n33.toNat]))], rfl, s36.pick [0] (by decide) (by walk_at "finL"), ?_, ?_⟩
          · rw [take_nextI h31n, TL_app, ← hI0]
          · rw [take_nextI h31n]; intro m hm; rcases List.mem_append.mp hm with z | z
            · exact hI1 m z
            · rw [List.mem_singleton.mp z]; unfold GdI; omega
      · intro σ' H' hP; obtain ⟨y_code, ws, rfl, sI, hI0, hI1⟩ := hP
        rw [List.take_of_length_le (by simp)] at hI1; exact absurd hI1 hb
def sp__law_row (K : PySem.W.Frag) (A : Ads) : Sp := fun vs H Q _ => ∃ (a : Addr) (ns : List Int) (k : Int), vs = [V.ref a, V.int k] ∧ (SqL K H a (ns.map V.int)) ∧ (0 ≤ k) ∧ Q (V.int (rowG ns k)) H
theorem ok__law_row (T : Txt K mg A) : FnOk P w K mg base CX0 1 A.a__law_row A.d__law_row ["_law_script", "_law_k"] (sp__law_row K A) := by
  refine T.F__law_row.ok sc__law_row (fun vs H Q E h => ?_) (fun cdv A' outer s H vs Q E hRm h => ?_)
  · obtain ⟨a, ns, k, rfl, _⟩ := h
    rfl
  · obtain ⟨a, ns, k, rfl, hS, h0, kq⟩ := h
    have hUn := hu_of hRm
    have s0 : Hs [] H [] H := Hs.start H
    refine ⟨_, (pss_cons (ps_set (i := 2) sc__law_row.nd rfl (.inl rfl) (pv 1)) (pss_cons (ps_if (pt_cmpR op_gt (pe_callB call_len_seq (by rfl) T.z_len PySem.boot_len (pa_cons (pv 0) pa_nil)) pe_int (nomark _)) (pss_cons (ps_set (i := 2) sc__law_row.nd rfl (.inl rfl) (pe_callTy call_int1 (by rfl) T.z_int (by decide +kernel) (pa_cons (pe_ix ix_list (pv 0) (pe_op op_mod (pv 1) (pe_callB call_len_seq (by rfl) T.z_len PySem.boot_len (pa_cons (pv 0) pa_nil))) (fun _ _ => rfl)) pa_nil))) pss_nil) pss_nil) (pss_cons (ps_if (pt_cmpR op_lt (pv 2) pe_int (nomark _)) (pss_cons (ps_set (i := 2) sc__law_row.nd rfl (.inl rfl) (pe_op op_sub (pe_op op_mul (pe_un un_neg pe_int) (pv 2)) pe_int)) pss_nil) pss_nil) (pss_cons (ps_if (pw_and (pt_cmpR op_lt (pv 1) (pe_callB call_len_seq (by rfl) T.z_len PySem.boot_len (pa_cons (pv 0) pa_nil)) (nomark _)) (pw_and1 (pt_cmpR op_ge (pv 2) (pe_op op_pow pe_int pe_int) (nomark _)))).pt (pss_cons (ps_ret (pv 2)) pss_nil) pss_nil) (pss_cons (ps_set (i := 3) sc__law_row.nd rfl (.inl rfl) (pe_op op_mod (pe_callTy call_int1 (by rfl) T.z_int (by decide +kernel) (pa_cons (pe_op op_add (pe_op op_add (pe_op op_mul (pv 2) pe_int) (pe_op op_mul (pv 1) pe_int)) pe_int) pa_nil)) pe_int)) (pss_cons (ps_set (i := 4) sc__law_row.nd rfl (.inl rfl) (pe_op op_mod (pe_callTy call_int1 (by rfl) T.z_int (by decide +kernel) (pa_cons (pe_op op_add (pe_op op_add (pe_op op_add (pe_op op_mul (pv 3) pe_int) (pv 2)) (pe_op op_mul (pv 1) pe_int)) pe_int) pa_nil)) pe_int)) (pss_cons (ps_set (i := 3) sc__law_row.nd rfl (.inl rfl) (pe_op op_mod (pe_callTy call_int1 (by rfl) T.z_int (by decide +kernel) (pa_cons (pe_op op_add (pe_op op_add (pe_op op_mul (pv 3) pe_int) (pe_op op_mul (pv 4) pe_int)) (pv 1)) pa_nil)) pe_int)) (pss_cons (ps_ret (pe_op op_add (pe_op op_mul (pv 4) pe_int) (pv 3))) pss_nil)))))))), ?_⟩
    refine c_sig [some (V.ref a), some (V.int k), none, none, none] rfl ?_
    refine s_set [some (V.ref a), some (V.int k), some (V.int k), none, none] (vv 1 rfl) rfl ?_
    obtain ⟨n2, en2⟩ : ∃ n : Int, n = (if (ns.length : Int) > 0 then gi ns (k % (ns.length : Int)) else k) := ⟨_, rfl⟩
    refine s_ifset [some (V.ref a), some (V.int k), some (V.int n2), none, none] (.int n2) (vtest (v0 (g := fun i j => .bl (decide (j < i))) (vis (vlenL (vv 0 rfl) (xs := ns.map V.int) (s0.sq hS)) (congrArg (fun n : Nat => V.int (n : Int)) (List.length_map ..))) vc)) (fun h1 => vis (vint (vixL (vv 0 rfl) (v1 (C := fun _ j => 0 < j) (g := fun i j => .int (i % j)) (by walk_at "side") (vv 1 rfl) (vis (vlenL (vv 0 rfl) (xs := ns.map V.int) (s0.sq hS)) (congrArg (fun n : Nat => V.int (n : Int)) (List.length_map ..)))) (xs := (ns.map V.int)) (s0.sq hS) (at_gi (by walk_at "side") (by walk_at "side")))) (congrArg V.int (by rw [en2, if_pos h1]))) rfl (fun h1 => by rw [en2, if_neg h1]) ?_
    obtain ⟨n4, en4⟩ : ∃ n : Int, n = (if n2 < 0 then ((-2) * n2) - 1 else n2) := ⟨_, rfl⟩
    refine s_ifset [some (V.ref a), some (V.int k), some (V.int n4), none, none] (.int n4) (vtest (v0 (g := fun i j => .bl (decide (i < j))) (vv 2 rfl) vc)) (fun h3 => vis (v0 (g := fun i j => .int (i - j)) (v1 (C := CMul) (g := fun i j => .int (i * j)) (.inl (by walk_at "cmul")) (vun (g := fun i => .int (-i)) vc) (vv 2 rfl)) vc) (congrArg V.int (by rw [en4, if_pos h3]))) rfl (fun h3 => by rw [en4, if_neg h3]) ?_
    refine s_if (p := (k < (ns.length : Int)) ∧ (n4 ≥ 1000000000)) (aand (vtest (v0 (g := fun i j => .bl (decide (i < j))) (vv 1 rfl) (vis (vlenL (vv 0 rfl) (xs := ns.map V.int) (s0.sq hS)) (congrArg (fun n : Nat => V.int (n : Int)) (List.length_map ..))))) (fun hc => (vtest (v0 (g := fun i j => .bl (decide (j ≤ i))) (vv 2 rfl) (vis (v1 (C := CPow) (g := fun i j => .int (i ^ j.toNat)) ⟨by decide, by decide, by decide⟩ vc vc) (w := .int 1000000000) (by rfl)))))) (fun h5 => ?_) (fun h5 => ?_)
    · -- then line 29
      refine s_ret (vv 2 rfl) ?_
      exact fin kq (by (subst_vars; first | exact congrArg V.int (if_pos (by assumption)).symm | exact congrArg V.int (if_neg (by assumption)).symm))
    · -- else line 29
      refine s_nxs ?_
      obtain ⟨n6, en6⟩ : ∃ n : Int, n = ((((n4 * 48271) + (k * 69621)) + 11) % 2147483647) := ⟨_, rfl⟩
      have en60 : 0 ≤ n6 := by rw [en6]; exact Int.emod_nonneg _ (by walk_at "side")
      have en61 : n6 < 2147483647 := by rw [en6]; exact Int.emod_lt_of_pos _ (by walk_at "side")
      refine s_set [some (V.ref a), some (V.int k), some (V.int n4), some (V.int n6), none] (vis (v1 (C := fun _ j => 0 < j) (g := fun i j => .int (i % j)) (by walk_at "side") (vint (v0 (g := fun i j => .int (i + j)) (v0 (g := fun i j => .int (i + j)) (v1 (C := CMul) (g := fun i j => .int (i * j)) (.inr (by walk_at "cmul")) (vv 2 rfl) vc) (v1 (C := CMul) (g := fun i j => .int (i * j)) (.inr (by walk_at "cmul")) (vv 1 rfl) vc)) vc)) vc) (congrArg V.int en6.symm)) rfl ?_
      obtain ⟨n7, en7⟩ : ∃ n : Int, n = (((((n6 * 40692) + n4) + (k * 16807)) + 5) % 2147483399) := ⟨_, rfl⟩
      have en70 : 0 ≤ n7 := by rw [en7]; exact Int.emod_nonneg _ (by walk_at "side")
      have en71 : n7 < 2147483399 := by rw [en7]; exact Int.emod_lt_of_pos _ (by walk_at "side")
      refine s_set [some (V.ref a), some (V.int k), some (V.int n4), some (V.int n6), some (V.int n7)] (vis (v1 (C := fun _ j => 0 < j) (g := fun i j => .int (i % j)) (by walk_at "side") (vint (v0 (g := fun i j => .int (i + j)) (v0 (g := fun i j => .int (i + j)) (v0 (g := fun i j => .int (i + j)) (v1 (C := CMul) (g := fun i j => .int (i * j)) (.inr (by walk_at "cmul")) (vv 3 rfl) vc) (vv 2 rfl)) (v1 (C := CMul) (g := fun i j => .int (i * j)) (.inr (by walk_at "cmul")) (vv 1 rfl) vc)) vc)) vc) (congrArg V.int en7.symm)) rfl ?_
      obtain ⟨n8, en8⟩ : ∃ n : Int, n = ((((n6 * 69621) + (n7 * 7)) + k) % 2147483647) := ⟨_, rfl⟩
      have en80 : 0 ≤ n8 := by rw [en8]; exact Int.emod_nonneg _ (by walk_at "side")
      have en81 : n8 < 2147483647 := by rw [en8]; exact Int.emod_lt_of_pos _ (by walk_at "side")
      refine s_set [some (V.ref a), some (V.int k), some (V.int n4), some (V.int n8), some (V.int n7)] (vis (v1 (C := fun _ j => 0 < j) (g := fun i j => .int (i % j)) (by walk_at "side") (vint (v0 (g := fun i j => .int (i + j)) (v0 (g := fun i j => .int (i + j)) (v1 (C := CMul) (g := fun i j => .int (i * j)) (.inr (by walk_at "cmul")) (vv 3 rfl) vc) (v1 (C := CMul) (g := fun i j => .int (i * j)) (.inr (by walk_at "cmul")) (vv 4 rfl) vc)) (vv 1 rfl))) vc) (congrArg V.int en8.symm)) rfl ?_
      refine s_ret (v0 (g := fun i j => .int (i + j)) (v1 (C := CMul) (g := fun i j => .int (i * j)) (.inr (by walk_at "cmul")) (vv 4 rfl) vc) (vv 3 rfl)) ?_
      exact fin kq (by (subst_vars; first | exact congrArg V.int (if_pos (by assumption)).symm | exact congrArg V.int (if_neg (by assumption)).symm))
def sp__law_char (K : PySem.W.Frag) (A : Ads) : Sp := fun vs H Q _ => ∃ (n : Int), vs = [V.int n] ∧ Q (V.str (sO ([chF n]))) H
theorem ok__law_char (T : Txt K mg A) : FnOk P w K mg base CX0 1 A.a__law_char A.d__law_char ["_law_number"] (sp__law_char K A) := by
  refine T.F__law_char.ok sc__law_char (fun vs H Q E h => ?_) (fun cdv A' outer s H vs Q E hRm h => ?_)
  · obtain ⟨n, rfl, _⟩ := h
    rfl
  · obtain ⟨n, rfl, kq⟩ := h
    have hUn := hu_of hRm
    have s0 : Hs [] H [] H := Hs.start H
    refine ⟨_, (pss_cons (ps_set (i := 1) sc__law_char.nd rfl (.inl rfl) pe_str) (pss_cons (ps_set (i := 1) sc__law_char.nd rfl (.inl rfl) (pe_op op_add_str (pv 1) pe_str)) (pss_cons (ps_ret (pe_ix ix_str (pv 1) (pe_op op_mod (pe_callTy call_int1 (by rfl) T.z_int (by decide +kernel) (pa_cons (pv 0) pa_nil)) pe_int) (fun _ _ => rfl))) pss_nil))), ?_⟩
    refine c_sig [some (V.int n), none] rfl ?_
    refine s_set [some (V.int n), some (V.str (sO ([32, 33, 34, 35, 36, 38, 39, 40, 41, 42, 43, 44, 45, 46, 47, 48, 49, 50, 51, 52, 53, 54, 55, 56, 57, 58, 59, 60, 61, 62, 63, 64, 65, 66, 67, 68, 69, 70, 71, 72, 73, 74, 75, 76, 77, 78, 79, 80, 81, 82, 83, 84, 85, 86, 87, 88, 89, 90, 91, 92, 93, 94, 95, 96])))] (vis vc (w := .str (sO ([32, 33, 34, 35, 36, 38, 39, 40, 41, 42, 43, 44, 45, 46, 47, 48, 49, 50, 51, 52, 53, 54, 55, 56, 57, 58, 59, 60, 61, 62, 63, 64, 65, 66, 67, 68, 69, 70, 71, 72, 73, 74, 75, 76, 77, 78, 79, 80, 81, 82, 83, 84, 85, 86, 87, 88, 89, 90, 91, 92, 93, 94, 95, 96]))) (congrArg V.str (by decide +kernel))) rfl ?_
    refine s_set [some (V.int n), some (V.str (sO ([32, 33, 34, 35, 36, 38, 39, 40, 41, 42, 43, 44, 45, 46, 47, 48, 49, 50, 51, 52, 53, 54, 55, 56, 57, 58, 59, 60, 61, 62, 63, 64, 65, 66, 67, 68, 69, 70, 71, 72, 73, 74, 75, 76, 77, 78, 79, 80, 81, 82, 83, 84, 85, 86, 87, 88, 89, 90, 91, 92, 93, 94, 95, 96, 97, 98, 99, 100, 101, 102, 103, 104, 105, 106, 107, 108, 109, 110, 111, 112, 113, 114, 115, 116, 117, 118, 119, 120, 121, 122, 123, 124, 125, 126])))] (vis (vcat (a := ([32, 33, 34, 35, 36, 38, 39, 40, 41, 42, 43, 44, 45, 46, 47, 48, 49, 50, 51, 52, 53, 54, 55, 56, 57, 58, 59, 60, 61, 62, 63, 64, 65, 66, 67, 68, 69, 70, 71, 72, 73, 74, 75, 76, 77, 78, 79, 80, 81, 82, 83, 84, 85, 86, 87, 88, 89, 90, 91, 92, 93, 94, 95, 96])) (b := ([97, 98, 99, 100, 101, 102, 103, 104, 105, 106, 107, 108, 109, 110, 111, 112, 113, 114, 115, 116, 117, 118, 119, 120, 121, 122, 123, 124, 125, 126])) (by walk_at "side") (vv 1 rfl) (vis vc (w := .str (sO ([97, 98, 99, 100, 101, 102, 103, 104, 105, 106, 107, 108, 109, 110, 111, 112, 113, 114, 115, 116, 117, 118, 119, 120, 121, 122, 123, 124, 125, 126]))) (congrArg V.str (by decide +kernel)))) (w := .str (sO ([32, 33, 34, 35, 36, 38, 39, 40, 41, 42, 43, 44, 45, 46, 47, 48, 49, 50, 51, 52, 53, 54, 55, 56, 57, 58, 59, 60, 61, 62, 63, 64, 65, 66, 67, 68, 69, 70, 71, 72, 73, 74, 75, 76, 77, 78, 79, 80, 81, 82, 83, 84, 85, 86, 87, 88, 89, 90, 91, 92, 93, 94, 95, 96, 97, 98, 99, 100, 101, 102, 103, 104, 105, 106, 107, 108, 109, 110, 111, 112, 113, 114, 115, 116, 117, 118, 119, 120, 121, 122, 123, 124, 125, 126]))) (by rfl)) rfl ?_
    refine s_ret (vixS (a := ([32, 33, 34, 35, 36, 38, 39, 40, 41, 42, 43, 44, 45, 46, 47, 48, 49, 50, 51, 52, 53, 54, 55, 56, 57, 58, 59, 60, 61, 62, 63, 64, 65, 66, 67, 68, 69, 70, 71, 72, 73, 74, 75, 76, 77, 78, 79, 80, 81, 82, 83, 84, 85, 86, 87, 88, 89, 90, 91, 92, 93, 94, 95, 96, 97, 98, 99, 100, 101, 102, 103, 104, 105, 106, 107, 108, 109, 110, 111, 112, 113, 114, 115, 116, 117, 118, 119, 120, 121, 122, 123, 124, 125, 126])) (by walk_at "side") (at_gn (by walk_at "side") (by walk_at "side")) (vv 1 rfl) (v1 (C := fun _ j => 0 < j) (g := fun i j => .int (i % j)) (by walk_at "side") (vint (vv 0 rfl)) vc)) ?_
    exact fin kq (by rfl)
def sp__law_text (K : PySem.W.Frag) (A : Ads) : Sp := fun vs H Q _ => ∃ (n m : Int), vs = [V.int n, V.int m] ∧ (0 ≤ m) ∧ (m ≤ 1000) ∧ ∀ (t : List Nat) (H' : Hp), Hs [] H [] H' → ((t.length : Int) = m) → (∀ c ∈ t, Gd c) → Q (V.str (sO t)) H'
theorem ok__law_text (T : Txt K mg A) : FnOk P w K mg base CX0 2 A.a__law_text A.d__law_text ["_law_number", "_law_count"] (sp__law_text K A) := by
  have G__law_char : FnOk P w K mg base CX0 1 A.a__law_char A.d__law_char ["_law_number"] (sp__law_char K A) := ok__law_char T
  refine T.F__law_text.ok sc__law_text (fun vs H Q E h => ?_) (fun cdv A' outer s H vs Q E hRm h => ?_)
  · obtain ⟨n, m, rfl, _⟩ := h
    rfl
  · obtain ⟨n, m, rfl, h0, h1, kq⟩ := h
    have hUn := hu_of hRm
    have s0 : Hs [] H [] H := Hs.start H
    refine ⟨_, (pss_cons (ps_set (i := 2) sc__law_text.nd rfl (.inl rfl) pe_str) (pss_cons (ps_set (i := 0) sc__law_text.nd rfl (.inl rfl) (pe_callTy call_int1 (by rfl) T.z_int (by decide +kernel) (pa_cons (pv 0) pa_nil))) (pss_cons (ps_for PassesOwn.never rfl (pi_range1 rfl T.z_range (pa_cons (pv 1) pa_nil)) (pg_name (i := 3) sc__law_text.nd rfl (.inl rfl)) (pss_cons (ps_set (i := 2) sc__law_text.nd rfl (.inl rfl) (pe_op op_add_str (pv 2) (pe_call G__law_char (hRm.mono (by decide)) (by rfl) T.g__law_char T.F__law_char.kp T.b__law_char .nil pass0 (pa_cons (pe_op op_fdiv (pv 0) pe_int) pa_nil)))) (pss_cons (ps_if (pt_cmpR op_lt (pe_op op_mod (pv 3) pe_int) pe_int (nomark _)) (pss_cons (ps_set (i := 0) sc__law_text.nd rfl (.inl rfl) (pe_op op_fdiv (pv 0) pe_int)) pss_nil) (pss_cons (ps_set (i := 0) sc__law_text.nd rfl (.inl rfl) (pe_op op_add (pe_op op_mul (pv 0) pe_int) (pv 3))) pss_nil)) pss_nil))) (pss_cons (ps_ret (pv 2)) pss_nil)))), ?_⟩
    refine c_sig [some (V.int n), some (V.int m), none, none] rfl ?_
    refine s_set [some (V.int n), some (V.int m), some (V.str (sO ([] : List Nat))), none] (vis vc (w := .str (sO ([] : List Nat))) (congrArg V.str (by decide +kernel))) rfl ?_
    refine s_set [some (V.int n), some (V.int m), some (V.str (sO ([] : List Nat))), none] (vint (vv 0 rfl)) rfl ?_
    refine s_forR1 (va (vv 1 rfl) va0) ⟨by walk_at "side", by walk_at "side"⟩ (fun i1 σ' H' => ∃ (y__law_k : Option V) (t : List Nat) (q : Int), σ' = [some (V.int q), some (V.int m), some (V.str (sO t)), y__law_k] ∧ Hs [] H [] H' ∧ (t.length = i1) ∧ (∀ c ∈ t, Gd c)) ?_ ?_ ?_
    · -- start
      refine ⟨_, ([] : List Nat), n, rfl, s0.pick [] (by decide) (by walk_at "finL"), ?_, ?_⟩
      · rfl
      · intro c hc; cases hc
    · intro i1 σ' H' h2 hP; obtain ⟨y__law_k, t, q, rfl, sI, hI0, hI1⟩ := hP
      refine c_sig [some (V.int q), some (V.int m), some (V.str (sO t)), some (V.int (i1 : Int))] rfl ?_
      refine s_set [some (V.int q), some (V.int m), some (V.str (sO (t ++ ([chF (q / 3)])))), some (V.int (i1 : Int))] (vcat (a := t) (b := ([chF (q / 3)])) (by walk_at "side") (vv 2 rfl) (vcall (va (v1 (C := CDiv) (g := fun i j => .int (i / j)) ⟨by walk_at "side", by walk_at "side"⟩ (vv 0 rfl) vc) va0) (fun _ kC => ⟨(q / 3), rfl, kC⟩))) rfl ?_
      refine s_if (p := ((i1 : Int) % 5) < 4) (vtest (v0 (g := fun i j => .bl (decide (i < j))) (v1 (C := fun _ j => 0 < j) (g := fun i j => .int (i % j)) (by walk_at "side") (vv 3 rfl) vc) vc)) (fun h4 => ?_) (fun h4 => ?_)
      · -- then line 44
        obtain ⟨n5, en5⟩ : ∃ n : Int, n = (q / 94) := ⟨_, rfl⟩
        refine s_set [some (V.int n5), some (V.int m), some (V.str (sO (t ++ ([chF (q / 3)])))), some (V.int (i1 : Int))] (vis (v1 (C := CDiv) (g := fun i j => .int (i / j)) ⟨by walk_at "side", by walk_at "side"⟩ (vv 0 rfl) vc) (congrArg V.int en5.symm)) rfl ?_
        refine s_nxs ?_
        refine s_nx ?_
        refine ⟨_, t ++ ([chF (q / 3)]), n5, rfl, sI.pick [] (by decide) (by walk_at "finL"), ?_, ?_⟩
        · rw [List.length_append]; simp only [List.length_cons, List.length_nil]; omega
        · exact gd_app (by assumption) (chF_gd _)
      · -- else line 44
        obtain ⟨n6, en6⟩ : ∃ n : Int, n = ((q * 48271) + (i1 : Int)) := ⟨_, rfl⟩
        refine s_set [some (V.int n6), some (V.int m), some (V.str (sO (t ++ ([chF (q / 3)])))), some (V.int (i1 : Int))] (vis (v0 (g := fun i j => .int (i + j)) (v1 (C := CMul) (g := fun i j => .int (i * j)) (.inr (by walk_at "cmul")) (vv 0 rfl) vc) (vv 3 rfl)) (congrArg V.int en6.symm)) rfl ?_
        refine s_nxs ?_
        refine s_nx ?_
        refine ⟨_, t ++ ([chF (q / 3)]), n6, rfl, sI.pick [] (by decide) (by walk_at "finL"), ?_, ?_⟩
        · rw [List.length_append]; simp only [List.length_cons, List.length_nil]; omega
        · exact gd_app (by assumption) (chF_gd _)
    · intro σ' H' hP; obtain ⟨y__law_k, t, q, rfl, sI, hI0, hI1⟩ := hP
      refine s_ret (vv 2 rfl) ?_
      have s7 : Hs [] H [] _ := (sI.pick [] (by decide) (by walk_at "finL"))
      exact fin (kq t _ s7 (by first | rfl | omega | assumption) (by first | rfl | omega | assumption)) (by first | rfl | omega | assumption)
def sp__law_good (K : PySem.W.Frag) (A : Ads) : Sp := fun vs H Q _ => ∃ (n : Int), vs = [V.int n] ∧ Q (V.bl (decide (GdI n))) H
theorem ok__law_good (T : Txt K mg A) : FnOk P w K mg base CX0 1 A.a__law_good A.d__law_good ["_law_code"] (sp__law_good K A) := by
  refine T.F__law_good.ok sc__law_good (fun vs H Q E h => ?_) (fun cdv A' outer s H vs Q E hRm h => ?_)
  · obtain ⟨n, rfl, _⟩ := h
    rfl
  · obtain ⟨n, rfl, kq⟩ := h
    have hUn := hu_of hRm
    have s0 : Hs [] H [] H := Hs.start H
    refine ⟨_, (pss_cons (ps_ret (pe_and (pe_cmpR op_le pe_int (pv 0) (nomark _)) (pe_and (pe_cmpR op_le (pv 0) pe_int (nomark _)) (pe_one (pe_cmpR op_ne (pv 0) pe_int (nomark _)))))) pss_nil), ?_⟩
    refine c_sig [some (V.int n)] rfl ?_
    refine s_ret (vand (v0 (g := fun i j => .bl (decide (i ≤ j))) vc (vv 0 rfl)) (fun hc => (vand (v0 (g := fun i j => .bl (decide (i ≤ j))) (vv 0 rfl) vc) (fun hc => (vne (vv 0 rfl) vc))))) ?_
    exact fin kq (by exact congrArg V.bl (decide_eq_decide.mpr (by unfold GdI; omega)))
def sp_law0 (K : PySem.W.Frag) : Sp := fun vs H Q _ => ∃ (a : Addr) (ns : List Int), vs = [.ref a] ∧ SqL K H a (ns.map V.int) ∧ ns.length ≤ 63 ∧ ∀ H', Q (.bl true) H'
abbrev sp_law (K : PySem.W.Frag) (_ : Ads) : Sp := sp_law0 K
theorem ok_law (T : Txt K mg A) : FnOk P w K mg base CX0 3 A.a_law A.d_law ["_law_script"] (sp_law K A) := by
  have G__law_row : FnOk P w K mg base CX0 1 A.a__law_row A.d__law_row ["_law_script", "_law_k"] (sp__law_row K A) := ok__law_row T
  have G__law_text : FnOk P w K mg base CX0 2 A.a__law_text A.d__law_text ["_law_number", "_law_count"] (sp__law_text K A) := ok__law_text T
  have G_is_text : FnOk P w K mg base CX0 2 A.a_is_text A.d_is_text ["text"] (sp_is_text K A) := ok_is_text T
  have G_octets_of : FnOk P w K mg base CX0 1 A.a_octets_of A.d_octets_of ["text"] (sp_octets_of K A) := ok_octets_of T
  have G_text_of : FnOk P w K mg base CX0 2 A.a_text_of A.d_text_of ["octets"] (sp_text_of K A) := ok_text_of T
  have G__law_good : FnOk P w K mg base CX0 1 A.a__law_good A.d__law_good ["_law_code"] (sp__law_good K A) := ok__law_good T
  refine T.F_law.ok sc_law (fun vs H Q E h => ?_) (fun cdv A' outer s H vs Q E hRm h => ?_)
  · obtain ⟨a, ns, rfl, _⟩ := h
    rfl
  · obtain ⟨a, ns, rfl, hS, hlen, kq⟩ := h
    have hUn := hu_of hRm
    have s0 : Hs [] H [] H := Hs.start H
    refine ⟨_, (pss_cons (ps_set (i := 1) sc_law.nd rfl (.inr rfl) (pe_call G__law_row (hRm.mono (by decide)) (by rfl) T.g__law_row T.F__law_row.kp T.b__law_row .nil pass0 (pa_cons (pv 0) (pa_cons pe_int pa_nil)))) (pss_cons (ps_set (i := 2) sc_law.nd rfl (.inl rfl) (pe_call G__law_text (hRm.mono (by decide)) (by rfl) T.g__law_text T.F__law_text.kp T.b__law_text .nil pass0 (pa_cons (pe_op op_fdiv (pe_callTy call_int1 (by rfl) T.z_int (by decide +kernel) (pa_cons (pv 1) pa_nil)) pe_int) (pa_cons (pe_op op_mod (pe_callTy call_int1 (by rfl) T.z_int (by decide +kernel) (pa_cons (pv 1) pa_nil)) pe_int) pa_nil)))) (pss_cons (ps_if (pw_or (pt_cmpR op_notBl (pe_call G_is_text (hRm.mono (by decide)) (by rfl) T.g_is_text T.F_is_text.kp T.b_is_text .nil pass0 (pa_cons (pv 2) pa_nil)) pe_bl (nomark _)) (pw_or (pt_cmpR op_notBl (pe_call G_is_text (hRm.mono (by decide)) (by rfl) T.g_is_text T.F_is_text.kp T.b_is_text .nil pass0 (pa_cons pe_str pa_nil)) pe_bl (nomark _)) (pw_or (pt_cmpR (op_neD hRm.units) (pe_call G_octets_of (hRm.mono (by decide)) (by rfl) T.g_octets_of T.F_octets_of.kp T.b_octets_of .nil pass0 (pa_cons pe_str pa_nil)) (pe_lst pa_nil) (nomark _)) (pw_or1 (pt_cmpR op_ne (pe_call G_text_of (hRm.mono (by decide)) (by rfl) T.g_text_of T.F_text_of.kp T.b_text_of .nil pass0 (pa_cons (pe_lst pa_nil) pa_nil)) pe_str (nomark _)))))).pt (pss_cons (ps_ret pe_bl) pss_nil) pss_nil) (pss_cons (ps_set (i := 3) sc_law.nd rfl (.inl rfl) (pe_call G_octets_of (hRm.mono (by decide)) (by rfl) T.g_octets_of T.F_octets_of.kp T.b_octets_of .nil pass0 (pa_cons (pv 2) pa_nil))) (pss_cons (ps_if (pw_or (pt_not (pt_val (pe_callB call_isi (by rfl) T.z_isinstance (by decide +kernel) (pa_cons (pv 3) (pa_cons (pe_bltn (v := .ty "list") (u := .type "list") (by rfl) T.z_list (by decide +kernel) rfl) pa_nil))) (fun _ => rfl))) (pw_or1 (pt_cmpR (op_neD hRm.units) (pv 3) (pe_lc (own := [("_law_char_here", 4)]) (g := gName 4) (tt := tYes) rfl sc_law.nd (pi_str (pv 2)) (blkOk_by (N := ["_law_script", "_law_number", "_law_text_here", "_law_octets", "_law_char_here", "_law_passed", "_law_back", "_law_at", "_law_row_here", "_law_code", "_law_good_here", "_law_k"]) (sc := defScope st_law) (by decide +kernel)) (fun _ _ _ _ _ => pg_name (i := 4) sc_law.nd rfl (Or.inl rfl)) (fun _ _ _ _ _ => pts_nil) (fun _ _ _ _ _ => (pe_callB call_ord (by rfl) T.z_ord (by decide +kernel) (pa_cons (pv 4) pa_nil)))) (nomark _)))).pt (pss_cons ps_never pss_nil) pss_nil) (pss_cons (ps_set (i := 5) sc_law.nd rfl (.inl rfl) (pe_callTy call_list_of (by rfl) T.z_list (by decide +kernel) (pa_cons (pv 3) pa_nil))) (pss_cons (ps_set (i := 6) sc_law.nd rfl (.inl rfl) (pe_call G_text_of (hRm.mono (by decide)) (by rfl) T.g_text_of T.F_text_of.kp T.b_text_of .nil pass0 (pa_cons (pv 5) pa_nil))) (pss_cons (ps_if (pw_or (pt_not (pt_val (pe_callB call_isi (by rfl) T.z_isinstance (by decide +kernel) (pa_cons (pv 6) (pa_cons (pe_bltn (v := .ty "str") (u := .type "str") (by rfl) T.z_str (by decide +kernel) rfl) pa_nil))) (fun _ => rfl))) (pw_or (pt_cmpR op_ne (pv 6) (pv 2) (nomark _)) (pw_or (pt_cmpR (op_neD hRm.units) (pv 5) (pv 3) (nomark _)) (pw_or1 (pt_cmpR op_ne (pe_call G_text_of (hRm.mono (by decide)) (by rfl) T.g_text_of T.F_text_of.kp T.b_text_of .nil pass0 (pa_cons (pe_callTy call_tuple_of (by rfl) T.z_tuple (by decide +kernel) (pa_cons (pv 3) pa_nil)) pa_nil)) (pv 2) (nomark _)))))).pt (pss_cons (ps_ret pe_bl) pss_nil) pss_nil) (pss_cons (ps_set (i := 7) sc_law.nd rfl (.inl rfl) (pe_op op_mod (pe_callTy call_int1 (by rfl) T.z_int (by decide +kernel) (pa_cons (pe_call G__law_row (hRm.mono (by decide)) (by rfl) T.g__law_row T.F__law_row.kp T.b__law_row .nil pass0 (pa_cons (pv 0) (pa_cons pe_int pa_nil))) pa_nil)) (pe_op op_add (pe_callB call_len_str (by rfl) T.z_len PySem.boot_len (pa_cons (pv 2) pa_nil)) pe_int))) (pss_cons (ps_if (pt_cmpR op_notBl (pe_call G_is_text (hRm.mono (by decide)) (by rfl) T.g_is_text T.F_is_text.kp T.b_is_text .nil pass0 (pa_cons (pe_op op_add_str (pe_op op_add_str (pe_slice sl_str (pv 2) po_none (po_some (pv 7))) (pe_ix ix_str pe_str (pe_op op_mod (pe_callTy call_int1 (by rfl) T.z_int (by decide +kernel) (pa_cons (pv 1) pa_nil)) pe_int) (fun _ _ => rfl))) (pe_slice sl_str (pv 2) (po_some (pv 7)) po_none)) pa_nil)) pe_bl (nomark _)) (pss_cons (ps_ret pe_bl) pss_nil) pss_nil) (pss_cons (ps_set (i := 1) sc_law.nd rfl (.inr rfl) (pe_call G__law_row (hRm.mono (by decide)) (by rfl) T.g__law_row T.F__law_row.kp T.b__law_row .nil pass0 (pa_cons (pv 0) (pa_cons pe_int pa_nil)))) (pss_cons (ps_setLc (i := 8) (own := [("_law_k", 11)]) (g := gName 11) (tt := tYes) rfl sc_law.nd rfl rfl (sw_true rfl rfl rfl (by decide +kernel)) (pi_range1 rfl T.z_range (pa_cons (pe_op op_mod (pe_callTy call_int1 (by rfl) T.z_int (by decide +kernel) (pa_cons (pv 1) pa_nil)) pe_int) pa_nil)) (blkOk_by (N := ["_law_script", "_law_number", "_law_text_here", "_law_octets", "_law_char_here", "_law_passed", "_law_back", "_law_at", "_law_row_here", "_law_code", "_law_good_here", "_law_k"]) (sc := defScope st_law) (by decide +kernel)) (fun _ _ _ _ _ => pg_name (i := 11) sc_law.nd rfl (Or.inl rfl)) (fun _ _ _ _ _ => pts_nil) (fun _ _ _ _ _ => (pe_op op_add pe_int (pe_op op_mod (pe_op op_add (pe_op op_fdiv (pe_callTy call_int1 (by rfl) T.z_int (by decide +kernel) (pa_cons (pv 1) pa_nil)) pe_int) (pe_op op_mul pe_int (pv 11))) pe_int)))) (pss_cons (ps_setLc (i := 8) (own := [("_law_code", 9)]) (g := gName 9) (tt := _) rfl sc_law.nd rfl rfl (sw_true rfl rfl rfl (by decide +kernel)) (pi_list (pv 8)) (blkOk_by (N := ["_law_script", "_law_number", "_law_text_here", "_law_octets", "_law_char_here", "_law_passed", "_law_back", "_law_at", "_law_row_here", "_law_code", "_law_good_here", "_law_k"]) (sc := defScope st_law) (by decide +kernel)) (fun _ _ _ _ _ => pg_name (i := 9) sc_law.nd rfl (Or.inl rfl)) (fun _ _ _ _ _ => (pts_one (pt_cmpR op_ne (pv 9) pe_int (nomark _)))) (fun _ _ _ _ _ => (pv 9))) (pss_cons (ps_expr (pe_bm PySem.F.plainAttrs_list PySem.F.slot_list_insert PySem.F.type_list_insert mt_insert (pv 8) (pa_cons (pe_op op_mod (pe_op op_fdiv (pe_callTy call_int1 (by rfl) T.z_int (by decide +kernel) (pa_cons (pv 1) pa_nil)) pe_int) (pe_op op_add (pe_callB call_len_seq (by rfl) T.z_len PySem.boot_len (pa_cons (pv 8) pa_nil)) pe_int)) (pa_cons (pe_op op_mod (pe_callTy call_int1 (by rfl) T.z_int (by decide +kernel) (pa_cons (pe_call G__law_row (hRm.mono (by decide)) (by rfl) T.g__law_row T.F__law_row.kp T.b__law_row .nil pass0 (pa_cons (pv 0) (pa_cons pe_int pa_nil))) pa_nil)) pe_int) pa_nil)))) (pss_cons (ps_set (i := 10) sc_law.nd rfl (.inl rfl) pe_bl) (pss_cons (ps_for PassesOwn.never rfl (pi_list (pv 8)) (pg_name (i := 9) sc_law.nd rfl (.inl rfl)) (pss_cons (ps_set (i := 10) sc_law.nd rfl (.inl rfl) (pe_and (pv 10) (pe_one (pe_call G__law_good (hRm.mono (by decide)) (by rfl) T.g__law_good T.F__law_good.kp T.b__law_good .nil pass0 (pa_cons (pv 9) pa_nil))))) pss_nil)) (pss_cons (ps_set (i := 6) sc_law.nd rfl (.inl rfl) (pe_call G_text_of (hRm.mono (by decide)) (by rfl) T.g_text_of T.F_text_of.kp T.b_text_of .nil pass0 (pa_cons (pv 8) pa_nil))) (pss_cons (ps_if (pw_and (pt_val (pv 10) (fun _ => rfl)) (pw_and1 (pw_or (pt_not (pt_val (pe_callB call_isi (by rfl) T.z_isinstance (by decide +kernel) (pa_cons (pv 6) (pa_cons (pe_bltn (v := .ty "str") (u := .type "str") (by rfl) T.z_str (by decide +kernel) rfl) pa_nil))) (fun _ => rfl))) (pw_or1 (pt_cmpR (op_neD hRm.units) (pe_call G_octets_of (hRm.mono (by decide)) (by rfl) T.g_octets_of T.F_octets_of.kp T.b_octets_of .nil pass0 (pa_cons (pv 6) pa_nil)) (pv 8) (nomark _)))).pt)).pt (pss_cons (ps_ret pe_bl) pss_nil) pss_nil) (pss_cons (ps_if (pw_and (pt_not (pt_val (pv 10) (fun _ => rfl))) (pw_and1 (pt_cmpR op_notN (pv 6) pe_non (nomark _)))).pt (pss_cons (ps_ret pe_bl) pss_nil) pss_nil) (pss_cons (ps_for PassesOwn.never rfl (pi_range1 rfl T.z_range (pa_cons pe_int pa_nil)) (pg_name (i := 9) sc_law.nd rfl (.inl rfl)) (pss_cons (ps_set (i := 4) sc_law.nd rfl (.inl rfl) (pe_call G_text_of (hRm.mono (by decide)) (by rfl) T.g_text_of T.F_text_of.kp T.b_text_of .nil pass0 (pa_cons (pe_lst (pa_cons (pv 9) pa_nil)) pa_nil))) (pss_cons (ps_if (pw_and (pt_val (pe_call G__law_good (hRm.mono (by decide)) (by rfl) T.g__law_good T.F__law_good.kp T.b__law_good .nil pass0 (pa_cons (pv 9) pa_nil)) (fun _ => rfl)) (pw_and1 (pw_or (pt_cmpR op_isN (pv 4) pe_non (nomark _)) (pw_or (pt_cmpR op_ne (pe_callB call_len_str (by rfl) T.z_len PySem.boot_len (pa_cons (pv 4) pa_nil)) pe_int (nomark _)) (pw_or1 (pt_cmpR op_ne (pe_callB call_ord (by rfl) T.z_ord (by decide +kernel) (pa_cons (pv 4) pa_nil)) (pv 9) (nomark _))))).pt)).pt (pss_cons (ps_ret pe_bl) pss_nil) pss_nil) (pss_cons (ps_if (pw_and (pt_not (pt_val (pe_call G__law_good (hRm.mono (by decide)) (by rfl) T.g__law_good T.F__law_good.kp T.b__law_good .nil pass0 (pa_cons (pv 9) pa_nil)) (fun _ => rfl))) (pw_and1 (pt_cmpR op_notN (pv 4) pe_non (nomark _)))).pt (pss_cons (ps_ret pe_bl) pss_nil) pss_nil) pss_nil)))) (pss_cons (ps_ret pe_bl) pss_nil))))))))))))))))))))), ?_⟩
    refine c_sig [some (V.ref a), none, none, none, none, none, none, none, none, none, none, none] rfl ?_
    obtain ⟨n1, en1⟩ : ∃ n : Int, n = (rowG ns 0) := ⟨_, rfl⟩
    have en10 : 0 ≤ n1 := by rw [en1]; exact rowG_nn _ _
    refine s_set [some (V.ref a), some (V.int n1), none, none, none, none, none, none, none, none, none, none] (vis (vcall (va (vv 0 rfl) (va vc va0)) (fun _ kC => ⟨a, ns, 0, rfl, (s0.sq hS), (by walk_at "side"), kC⟩)) (congrArg V.int en1.symm)) rfl ?_
    refine c_set ?_
    refine c_callx ?_
    refine c_cons ?_
    obtain ⟨n2, en2⟩ : ∃ n : Int, n = (n1 / 61) := ⟨_, rfl⟩
    refine (vis (v1 (C := CDiv) (g := fun i j => .int (i / j)) ⟨by walk_at "side", by walk_at "side"⟩ (vint (vv 1 rfl)) vc) (congrArg V.int en2.symm)) _ ?_
    refine c_cons ?_
    obtain ⟨n3, en3⟩ : ∃ n : Int, n = (n1 % 61) := ⟨_, rfl⟩
    have en30 : 0 ≤ n3 := by rw [en3]; exact Int.emod_nonneg _ (by walk_at "side")
    have en31 : n3 < 61 := by rw [en3]; exact Int.emod_lt_of_pos _ (by walk_at "side")
    refine (vis (v1 (C := fun _ j => 0 < j) (g := fun i j => .int (i % j)) (by walk_at "side") (vint (vv 1 rfl)) vc) (congrArg V.int en3.symm)) _ ?_
    refine c_nil ?_
    refine ⟨n2, n3, rfl, (by walk_at "side"), (by walk_at "side"), fun t_4 H5 r6 f7 f8 => ?_⟩
    have s9 : Hs [] H [] _ := s0.call0 r6
    refine k_set [some (V.ref a), some (V.int n1), some (V.str (sO t_4)), none, none, none, none, none, none, none, none, none] rfl ?_
    refine c_ifS ?_
    refine c_or ?_
    refine c_test ?_
    refine c_op ?_
    refine c_callx ?_
    refine c_cons ?_
    refine (vv 2 rfl) _ ?_
    refine c_nil ?_
    refine ⟨t_4, rfl, (by first | walk_at "side" | (unfold cutN; simp; omega) | (rw [List.length_map]; omega)), fun H12 r13 => ?_⟩
    have s14 : Hs [] H [] _ := s9.call0 r13
    refine vc _ ?_
    refine ⟨_, _, rfl, rfl, ?_⟩
    refine ⟨_, rfl, ?_⟩
    refine c_iteB (fun h11 => ?_) (fun h11 => ?_)
    · -- yes
      refine iteT ?_
      refine s_ret vc ?_
      exfalso; first | exact absurd (tn_map _) (by assumption) | exact bad_mid (dec_nf (by assumption)) | exact oct_dead (by assumption) (by assumption) | walk_at "dead"
    · -- no
      refine c_or ?_
      refine c_test ?_
      refine c_op ?_
      refine c_callx ?_
      refine c_cons ?_
      refine (vis vc (w := .str (sO ([] : List Nat))) (congrArg V.str (by decide +kernel))) _ ?_
      refine c_nil ?_
      refine ⟨([] : List Nat), rfl, (by first | walk_at "side" | (unfold cutN; simp; omega) | (rw [List.length_map]; omega)), fun H16 r17 => ?_⟩
      have s18 : Hs [] H [] _ := s14.call0 r17
      refine vc _ ?_
      refine ⟨_, _, rfl, rfl, ?_⟩
      refine ⟨_, rfl, ?_⟩
      refine c_iteB (fun h15 => ?_) (fun h15 => ?_)
      · -- yes
        refine iteT ?_
        refine s_ret vc ?_
        exfalso; first | exact absurd (tn_map _) (by assumption) | exact bad_mid (dec_nf (by assumption)) | exact oct_dead (by assumption) (by assumption) | walk_at "dead"
      · -- no
        refine c_or ?_
        refine c_test ?_
        refine c_op ?_
        refine c_callx ?_
        refine c_cons ?_
        refine (vis vc (w := .str (sO ([] : List Nat))) (congrArg V.str (by decide +kernel))) _ ?_
        refine c_nil ?_
        refine ⟨([] : List Nat), rfl, (by first | walk_at "side" | (unfold cutN; simp; omega) | (rw [List.length_map]; omega)), fun p_20 H21 r22 => ?_⟩
        have s23 : Hs [] H [(p_20, .lst ((([] : List Nat).map (fun (c_ : Nat) => (c_ : Int))).map V.int))] _ := s18.call0 r22
        refine c_lst ?_
        refine c_nil ?_
        refine ⟨sz1 (by show 0 ≤ 1000000; decide), fun p24 np24 => ?_⟩
        have s25 : Hs [] H [(p24, .lst ([])), (p_20, .lst ((([] : List Nat).map (fun (c_ : Nat) => (c_ : Int))).map V.int))] _ := s23.new np24 (.lst ([]))
        refine ⟨.list ((([] : List Nat).map (fun (c_ : Nat) => (c_ : Int))).map PyData.int), .list [], (.lst (s25.l 1 rfl) (dp_ints (([] : List Nat).map (fun (c_ : Nat) => (c_ : Int))))), (.lst (s25.l 0 rfl) .nil), (by walk_at "shp"), (by walk_at "shp"), ?_⟩
        refine ⟨_, rfl, ?_⟩
        refine c_iteB (fun h19 => ?_) (fun h19 => ?_)
        · -- yes
          refine iteT ?_
          refine s_ret vc ?_
          exfalso; first | exact absurd (tn_map _) (by assumption) | exact bad_mid (dec_nf (by assumption)) | exact oct_dead (by assumption) (by assumption) | walk_at "dead"
        · -- no
          refine c_test ?_
          refine c_op ?_
          refine c_callx ?_
          refine c_cons ?_
          refine c_lst ?_
          refine c_nil ?_
          refine ⟨sz1 (by show 0 ≤ 1000000; decide), fun p27 np27 => ?_⟩
          have s28 : Hs [] H [(p27, .lst ([])), (p24, .lst ([])), (p_20, .lst ((([] : List Nat).map (fun (c_ : Nat) => (c_ : Int))).map V.int))] _ := s25.new np27 (.lst ([]))
          refine c_nil ?_
          refine .inl ⟨p27, ([] : List Int), rfl, (s28.l 0 rfl), (by first | walk_at "side" | (unfold cutN; simp; omega) | (rw [List.length_map]; omega)), (by first | assumption | exact gd_map (by assumption) | (intro n hn; cases hn; done) | (intro n hn; rw [List.mem_singleton.mp hn]; subst_vars; assumption)), fun H29 r30 => ?_⟩
          have s31 : Hs [] H [(p27, .lst ([])), (p24, .lst ([])), (p_20, .lst ((([] : List Nat).map (fun (c_ : Nat) => (c_ : Int))).map V.int))] _ := s28.call0 r30
          refine (vis vc (w := .str (sO ([] : List Nat))) (congrArg V.str (by decide +kernel))) _ ?_
          refine r_neS (a := ([] : List Int).map Int.toNat) (b := ([] : List Nat)) ?_
          refine ⟨_, rfl, ?_⟩
          refine c_ite (p := (([] : List Int).map Int.toNat) ≠ ([] : List Nat)) (fun h26 => ?_) (fun h26 => ?_)
          · -- yes
            refine s_ret vc ?_
            exfalso; first | exact absurd (tn_map _) (by assumption) | exact bad_mid (dec_nf (by assumption)) | exact oct_dead (by assumption) (by assumption) | walk_at "dead"
          · -- no
            refine s_nxs ?_
            refine c_set ?_
            refine c_callx ?_
            refine c_cons ?_
            refine (vv 2 rfl) _ ?_
            refine c_nil ?_
            refine ⟨t_4, rfl, (by first | walk_at "side" | (unfold cutN; simp; omega) | (rw [List.length_map]; omega)), fun p_32 H33 r34 => ?_⟩
            have s35 : Hs [] H [(p_32, .lst ((t_4.map (fun (c_ : Nat) => (c_ : Int))).map V.int)), (p27, .lst ([])), (p24, .lst ([])), (p_20, .lst ((([] : List Nat).map (fun (c_ : Nat) => (c_ : Int))).map V.int))] _ := s31.call0 r34
            refine k_set [some (V.ref a), some (V.int n1), some (V.str (sO t_4)), some (V.ref p_32), none, none, none, none, none, none, none, none] rfl ?_
            refine c_ifS ?_
            refine c_or ?_
            refine c_not ?_
            refine (vB (vbool (visi (b := true) (tu := .type "list") (vv 3 rfl) vc (ClsV.ty "list") (.base (.lst (s35.mem 0 rfl))) (kit_ty (by decide +kernel))))) _ ?_
            refine c_iten (p := true = true) (fun h37 => ?_) (fun h37 => ?_)
            · -- no
              exfalso; walk_at "dead"
            · -- yes
              refine c_test ?_
              refine c_op ?_
              refine (vv 3 rfl) _ ?_
              refine c_lcS (a := t_4) (fun (c43 : Nat) => V.int (c43 : Int)) s35 (vv 2 rfl) (by walk_at "side") (fun _ => rfl) (fun i39 c43 H42 h41 s40 => (vord (vv 4 rfl))) (fun p44 H46 s47 => ?_)
              have s45 : Hs [] H [(p44, .lst ((t_4.map (fun (c_ : Nat) => (c_ : Int))).map V.int)), (p_32, .lst ((t_4.map (fun (c_ : Nat) => (c_ : Int))).map V.int)), (p27, .lst ([])), (p24, .lst ([])), (p_20, .lst ((([] : List Nat).map (fun (c_ : Nat) => (c_ : Int))).map V.int))] _ := s47.top (congrArg HO.lst (map_comp_V (fun (c_ : Nat) => (c_ : Int)) V.int t_4))
              refine ⟨.list ((t_4.map (fun (c_ : Nat) => (c_ : Int))).map PyData.int), .list ((t_4.map (fun (c_ : Nat) => (c_ : Int))).map PyData.int), (.lst (s45.l 1 rfl) (dp_ints (t_4.map (fun (c_ : Nat) => (c_ : Int))))), (.lst (s45.l 0 rfl) (dp_ints (t_4.map (fun (c_ : Nat) => (c_ : Int))))), (by walk_at "shp"), (by walk_at "shp"), ?_⟩
              rw [show PyData.eqv (.list ((t_4.map (fun (c_ : Nat) => (c_ : Int))).map PyData.int)) (.list ((t_4.map (fun (c_ : Nat) => (c_ : Int))).map PyData.int)) = true from SeqAt.eqv_refl _ (SeqAt.canLay_of_shaped (by walk_at "shp"))]
              refine ⟨_, rfl, ?_⟩
              refine c_iteB (fun h38 => ?_) (fun h38 => ?_)
              · -- yes
                exfalso; walk_at "dead"
              · -- no
                refine s_nxs ?_
                refine c_set ?_
                refine c_cb ?_
                refine c_cons ?_
                refine (vv 3 rfl) _ ?_
                refine c_nil ?_
                refine ⟨_, _, rfl, .inl (s45.l 1 rfl), fun p48 np48 => ?_⟩
                have s49 : Hs [] H [(p48, .lst ((t_4.map (fun (c_ : Nat) => (c_ : Int))).map V.int)), (p44, .lst ((t_4.map (fun (c_ : Nat) => (c_ : Int))).map V.int)), (p_32, .lst ((t_4.map (fun (c_ : Nat) => (c_ : Int))).map V.int)), (p27, .lst ([])), (p24, .lst ([])), (p_20, .lst ((([] : List Nat).map (fun (c_ : Nat) => (c_ : Int))).map V.int))] _ := s45.new np48 (.lst ((t_4.map (fun (c_ : Nat) => (c_ : Int))).map V.int))
                refine k_set [some (V.ref a), some (V.int n1), some (V.str (sO t_4)), some (V.ref p_32), none, some (V.ref p48), none, none, none, none, none, none] rfl ?_
                refine c_set ?_
                refine c_callx ?_
                refine c_cons ?_
                refine (vv 5 rfl) _ ?_
                refine c_nil ?_
                refine .inl ⟨p48, (t_4.map (fun (c_ : Nat) => (c_ : Int))), rfl, (s49.l 0 rfl), (by first | walk_at "side" | (unfold cutN; simp; omega) | (rw [List.length_map]; omega)), (by first | assumption | exact gd_map (by assumption) | (intro n hn; cases hn; done) | (intro n hn; rw [List.mem_singleton.mp hn]; subst_vars; assumption)), fun H50 r51 => ?_⟩
                have s52 : Hs [] H [(p48, .lst ((t_4.map (fun (c_ : Nat) => (c_ : Int))).map V.int)), (p44, .lst ((t_4.map (fun (c_ : Nat) => (c_ : Int))).map V.int)), (p_32, .lst ((t_4.map (fun (c_ : Nat) => (c_ : Int))).map V.int)), (p27, .lst ([])), (p24, .lst ([])), (p_20, .lst ((([] : List Nat).map (fun (c_ : Nat) => (c_ : Int))).map V.int))] _ := s49.call0 r51
                refine k_set [some (V.ref a), some (V.int n1), some (V.str (sO t_4)), some (V.ref p_32), none, some (V.ref p48), some (V.str (sO ((t_4.map (fun (c_ : Nat) => (c_ : Int))).map Int.toNat))), none, none, none, none, none] rfl ?_
                refine c_ifS ?_
                refine c_or ?_
                refine c_not ?_
                refine (vB (vbool (visi (b := true) (tu := .type "str") (vv 6 rfl) vc (ClsV.ty "str") (.base (.str _)) (kit_ty (by decide +kernel))))) _ ?_
                refine c_iten (p := true = true) (fun h54 => ?_) (fun h54 => ?_)
                · -- no
                  exfalso; walk_at "dead"
                · -- yes
                  refine c_or ?_
                  refine (vtest (vneS (a := ((t_4.map (fun (c_ : Nat) => (c_ : Int))).map Int.toNat)) (b := t_4) (vv 6 rfl) (vv 2 rfl))) _ ?_
                  refine c_ite (p := ((t_4.map (fun (c_ : Nat) => (c_ : Int))).map Int.toNat) ≠ t_4) (fun h55 => ?_) (fun h55 => ?_)
                  · -- yes
                    refine iteT ?_
                    refine s_ret vc ?_
                    exfalso; first | exact absurd (tn_map _) (by assumption) | exact bad_mid (dec_nf (by assumption)) | exact oct_dead (by assumption) (by assumption) | walk_at "dead"
                  · -- no
                    refine c_or ?_
                    refine c_test ?_
                    refine c_op ?_
                    refine (vv 5 rfl) _ ?_
                    refine (vv 3 rfl) _ ?_
                    refine ⟨.list ((t_4.map (fun (c_ : Nat) => (c_ : Int))).map PyData.int), .list ((t_4.map (fun (c_ : Nat) => (c_ : Int))).map PyData.int), (.lst (s52.l 0 rfl) (dp_ints (t_4.map (fun (c_ : Nat) => (c_ : Int))))), (.lst (s52.l 2 rfl) (dp_ints (t_4.map (fun (c_ : Nat) => (c_ : Int))))), (by walk_at "shp"), (by walk_at "shp"), ?_⟩
                    rw [show PyData.eqv (.list ((t_4.map (fun (c_ : Nat) => (c_ : Int))).map PyData.int)) (.list ((t_4.map (fun (c_ : Nat) => (c_ : Int))).map PyData.int)) = true from SeqAt.eqv_refl _ (SeqAt.canLay_of_shaped (by walk_at "shp"))]
                    refine ⟨_, rfl, ?_⟩
                    refine c_iteB (fun h56 => ?_) (fun h56 => ?_)
                    · -- yes
                      exfalso; walk_at "dead"
                    · -- no
                      refine c_test ?_
                      refine c_op ?_
                      refine c_callx ?_
                      refine c_cons ?_
                      refine c_cb ?_
                      refine c_cons ?_
                      refine (vv 3 rfl) _ ?_
                      refine c_nil ?_
                      refine ⟨_, _, rfl, .inl ⟨(s52.l 2 rfl), fun p58 np58 => ?_⟩⟩
                      have s59 : Hs [] H [(p58, .tup ((t_4.map (fun (c_ : Nat) => (c_ : Int))).map V.int)), (p48, .lst ((t_4.map (fun (c_ : Nat) => (c_ : Int))).map V.int)), (p44, .lst ((t_4.map (fun (c_ : Nat) => (c_ : Int))).map V.int)), (p_32, .lst ((t_4.map (fun (c_ : Nat) => (c_ : Int))).map V.int)), (p27, .lst ([])), (p24, .lst ([])), (p_20, .lst ((([] : List Nat).map (fun (c_ : Nat) => (c_ : Int))).map V.int))] _ := s52.new np58 (.tup ((t_4.map (fun (c_ : Nat) => (c_ : Int))).map V.int))
                      refine c_nil ?_
                      refine .inr (.inr (.inl ⟨p58, (t_4.map (fun (c_ : Nat) => (c_ : Int))), rfl, (s59.t 0 rfl), (by first | walk_at "side" | (unfold cutN; simp; omega) | (rw [List.length_map]; omega)), (by first | assumption | exact gd_map (by assumption) | (intro n hn; cases hn; done) | (intro n hn; rw [List.mem_singleton.mp hn]; subst_vars; assumption)), fun H60 r61 => ?_⟩))
                      have s62 : Hs [] H [(p58, .tup ((t_4.map (fun (c_ : Nat) => (c_ : Int))).map V.int)), (p48, .lst ((t_4.map (fun (c_ : Nat) => (c_ : Int))).map V.int)), (p44, .lst ((t_4.map (fun (c_ : Nat) => (c_ : Int))).map V.int)), (p_32, .lst ((t_4.map (fun (c_ : Nat) => (c_ : Int))).map V.int)), (p27, .lst ([])), (p24, .lst ([])), (p_20, .lst ((([] : List Nat).map (fun (c_ : Nat) => (c_ : Int))).map V.int))] _ := s59.call0 r61
                      refine (vv 2 rfl) _ ?_
                      refine r_neS (a := (t_4.map (fun (c_ : Nat) => (c_ : Int))).map Int.toNat) (b := t_4) ?_
                      refine ⟨_, rfl, ?_⟩
                      refine c_ite (p := ((t_4.map (fun (c_ : Nat) => (c_ : Int))).map Int.toNat) ≠ t_4) (fun h57 => ?_) (fun h57 => ?_)
                      · -- yes
                        refine s_ret vc ?_
                        exfalso; first | exact absurd (tn_map _) (by assumption) | exact bad_mid (dec_nf (by assumption)) | exact oct_dead (by assumption) (by assumption) | walk_at "dead"
                      · -- no
                        refine s_nxs ?_
                        obtain ⟨n63, en63⟩ : ∃ n : Int, n = ((rowG ns 1) % ((t_4.length : Int) + 1)) := ⟨_, rfl⟩
                        have en630 : 0 ≤ n63 := by rw [en63]; exact Int.emod_nonneg _ (by walk_at "side")
                        have en631 : n63 < (t_4.length : Int) + 1 := by rw [en63]; exact Int.emod_lt_of_pos _ (by walk_at "side")
                        refine s_set [some (V.ref a), some (V.int n1), some (V.str (sO t_4)), some (V.ref p_32), none, some (V.ref p48), some (V.str (sO ((t_4.map (fun (c_ : Nat) => (c_ : Int))).map Int.toNat))), some (V.int n63), none, none, none, none] (vis (v1 (C := fun _ j => 0 < j) (g := fun i j => .int (i % j)) (by walk_at "side") (vint (vcall (va (vv 0 rfl) (va vc va0)) (fun _ kC => ⟨a, ns, 1, rfl, (s62.sq hS), (by walk_at "side"), kC⟩))) (v0 (g := fun i j => .int (i + j)) (vlenS (a := t_4) (by walk_at "side") (vv 2 rfl)) vc)) (congrArg V.int en63.symm)) rfl ?_
                        refine c_ifS ?_
                        refine c_test ?_
                        refine c_op ?_
                        refine c_callx ?_
                        refine c_cons ?_
                        refine (vcat (a := ((cutN t_4 0 n63) ++ ([gn ([10, 9]) (n1 % 2)]))) (b := (cutN t_4 n63 (t_4.length : Int))) (by walk_at "side") (vcat (a := (cutN t_4 0 n63)) (b := ([gn ([10, 9]) (n1 % 2)])) (by walk_at "side") (vslS (a := t_4) (vv 2 rfl) vp0 (vp1 (vv 7 rfl)) (by walk_at "side") (by show (0 : Int) ≤ 0; walk_at "side") (by show (0 : Int) ≤ (t_4.length : Int); walk_at "side") (by show (0 : Int) ≤ n63; walk_at "side") (by show (n63 : Int) ≤ (t_4.length : Int); walk_at "side")) (vixS (a := ([10, 9])) (by walk_at "side") (at_gn (by walk_at "side") (by walk_at "side")) (vis vc (w := .str (sO ([10, 9]))) (congrArg V.str (by decide +kernel))) (v1 (C := fun _ j => 0 < j) (g := fun i j => .int (i % j)) (by walk_at "side") (vint (vv 1 rfl)) vc))) (vslS (a := t_4) (vv 2 rfl) (vp1 (vv 7 rfl)) vp0 (by walk_at "side") (by show (0 : Int) ≤ n63; walk_at "side") (by show (n63 : Int) ≤ (t_4.length : Int); walk_at "side") (by show (0 : Int) ≤ (t_4.length : Int); walk_at "side") (by show ((t_4.length : Int) : Int) ≤ (t_4.length : Int); walk_at "side"))) _ ?_
                        refine c_nil ?_
                        refine ⟨(((cutN t_4 0 n63) ++ ([gn ([10, 9]) (n1 % 2)])) ++ (cutN t_4 n63 (t_4.length : Int))), rfl, (by first | walk_at "side" | (unfold cutN; simp; omega) | (rw [List.length_map]; omega)), fun H66 r67 => ?_⟩
                        have s68 : Hs [] H [(p58, .tup ((t_4.map (fun (c_ : Nat) => (c_ : Int))).map V.int)), (p48, .lst ((t_4.map (fun (c_ : Nat) => (c_ : Int))).map V.int)), (p44, .lst ((t_4.map (fun (c_ : Nat) => (c_ : Int))).map V.int)), (p_32, .lst ((t_4.map (fun (c_ : Nat) => (c_ : Int))).map V.int)), (p27, .lst ([])), (p24, .lst ([])), (p_20, .lst ((([] : List Nat).map (fun (c_ : Nat) => (c_ : Int))).map V.int))] _ := s62.call0 r67
                        refine vc _ ?_
                        refine ⟨_, _, rfl, rfl, ?_⟩
                        refine ⟨_, rfl, ?_⟩
                        refine c_iteB (fun h65 => ?_) (fun h65 => ?_)
                        · -- yes
                          refine s_ret vc ?_
                          exfalso; first | exact absurd (tn_map _) (by assumption) | exact bad_mid (dec_nf (by assumption)) | exact oct_dead (by assumption) (by assumption) | walk_at "dead"
                        · -- no
                          refine s_nxs ?_
                          obtain ⟨n69, en69⟩ : ∃ n : Int, n = (rowG ns 2) := ⟨_, rfl⟩
                          have en690 : 0 ≤ n69 := by rw [en69]; exact rowG_nn _ _
                          refine s_set [some (V.ref a), some (V.int n69), some (V.str (sO t_4)), some (V.ref p_32), none, some (V.ref p48), some (V.str (sO ((t_4.map (fun (c_ : Nat) => (c_ : Int))).map Int.toNat))), some (V.int n63), none, none, none, none] (vis (vcall (va (vv 0 rfl) (va vc va0)) (fun _ kC => ⟨a, ns, 2, rfl, (s68.sq hS), (by walk_at "side"), kC⟩)) (congrArg V.int en69.symm)) rfl ?_
                          refine c_set ?_
                          refine c_lcR (n := n69 % 41) (fun (i70 : Nat) => 32 + (((n69 / 41) + (7 * (i70 : Int))) % 95)) s68 (va (v1 (C := fun _ j => 0 < j) (g := fun i j => .int (i % j)) (by walk_at "side") (vint (vv 1 rfl)) vc) va0) ⟨by walk_at "side", by walk_at "side"⟩ (fun _ => rfl) (fun i70 H73 h72 s71 => (v0 (g := fun i j => .int (i + j)) vc (v1 (C := fun _ j => 0 < j) (g := fun i j => .int (i % j)) (by walk_at "side") (v0 (g := fun i j => .int (i + j)) (v1 (C := CDiv) (g := fun i j => .int (i / j)) ⟨by walk_at "side", by walk_at "side"⟩ (vint (vv 1 rfl)) vc) (v1 (C := CMul) (g := fun i j => .int (i * j)) (.inl (by walk_at "cmul")) vc (vv 11 rfl))) vc))) (fun p74 H76 s75 => ?_)
                          refine k_set [some (V.ref a), some (V.int n69), some (V.str (sO t_4)), some (V.ref p_32), none, some (V.ref p48), some (V.str (sO ((t_4.map (fun (c_ : Nat) => (c_ : Int))).map Int.toNat))), some (V.int n63), some (V.ref p74), none, none, none] rfl ?_
                          refine c_set ?_
                          refine c_lcF (ns := (List.range (n69 % 41).toNat).map (fun (j_ : Nat) => 32 + (((n69 / 41) + (7 * (j_ : Int))) % 95))) (fun (n81 : Int) => n81 ≠ 37) (fun (n81 : Int) => n81) s75 (vv 8 rfl) (fun _ qS => qS.l 0 rfl) (by walk_at "side") (fun _ => rfl) (fun i77 n81 H80 h79 s78 => (vtest (vne (vv 9 rfl) vc))) (fun i77 n81 H80 h79 _ s78 => (vv 9 rfl)) (fun p82 H84 s83 => ?_)
                          refine k_set [some (V.ref a), some (V.int n69), some (V.str (sO t_4)), some (V.ref p_32), none, some (V.ref p48), some (V.str (sO ((t_4.map (fun (c_ : Nat) => (c_ : Int))).map Int.toNat))), some (V.int n63), some (V.ref p82), none, none, none] rfl ?_
                          have hfl : (fm (fun (n81 : Int) => n81 ≠ 37) (fun (n81 : Int) => n81) ((List.range (n69 % 41).toNat).map (fun (j_ : Nat) => 32 + (((n69 / 41) + (7 * (j_ : Int))) % 95)))).length ≤ 60 := Nat.le_trans (fm_le ..) (by simp; omega)
                          obtain ⟨l85, el85⟩ : ∃ l : List Int, l = (fm (fun (n81 : Int) => n81 ≠ 37) (fun (n81 : Int) => n81) ((List.range (n69 % 41).toNat).map (fun (j_ : Nat) => 32 + (((n69 / 41) + (7 * (j_ : Int))) % 95)))) := ⟨_, rfl⟩
                          have s86 : Hs [] H [(p82, .lst (l85.map V.int)), (p74, .lst (((List.range (n69 % 41).toNat).map (fun (j_ : Nat) => 32 + (((n69 / 41) + (7 * (j_ : Int))) % 95))).map V.int)), (p58, .tup ((t_4.map (fun (c_ : Nat) => (c_ : Int))).map V.int)), (p48, .lst ((t_4.map (fun (c_ : Nat) => (c_ : Int))).map V.int)), (p44, .lst ((t_4.map (fun (c_ : Nat) => (c_ : Int))).map V.int)), (p_32, .lst ((t_4.map (fun (c_ : Nat) => (c_ : Int))).map V.int)), (p27, .lst ([])), (p24, .lst ([])), (p_20, .lst ((([] : List Nat).map (fun (c_ : Nat) => (c_ : Int))).map V.int))] _ := Hs.cg (by rw [el85]) s83
                          rw [← el85] at hfl
                          
                          obtain ⟨n87, en87⟩ : ∃ n : Int, n = ((n69 / 41) % ((l85.length : Int) + 1)) := ⟨_, rfl⟩
                          have en870 : 0 ≤ n87 := by rw [en87]; exact Int.emod_nonneg _ (by walk_at "side")
                          have en871 : n87 < (l85.length : Int) + 1 := by rw [en87]; exact Int.emod_lt_of_pos _ (by walk_at "side")
                          obtain ⟨n88, en88⟩ : ∃ n : Int, n = ((rowG ns 3) % 256) := ⟨_, rfl⟩
                          have en880 : 0 ≤ n88 := by rw [en88]; exact Int.emod_nonneg _ (by walk_at "side")
                          have en881 : n88 < 256 := by rw [en88]; exact Int.emod_lt_of_pos _ (by walk_at "side")
                          refine s_insI (xs := l85) (s86.mem 0 rfl) (vv 8 rfl) (vis (v1 (C := fun _ j => 0 < j) (g := fun i j => .int (i % j)) (by walk_at "side") (v1 (C := CDiv) (g := fun i j => .int (i / j)) ⟨by walk_at "side", by walk_at "side"⟩ (vint (vv 1 rfl)) vc) (v0 (g := fun i j => .int (i + j)) (vis (vlenL (vv 8 rfl) (xs := l85.map V.int) (s86.l 0 rfl)) (congrArg (fun n : Nat => V.int (n : Int)) (List.length_map ..))) vc)) (congrArg V.int en87.symm)) (vis (v1 (C := fun _ j => 0 < j) (g := fun i j => .int (i % j)) (by walk_at "side") (vint (vcall (va (vv 0 rfl) (va vc va0)) (fun _ kC => ⟨a, ns, 3, rfl, (s86.sq hS), (by walk_at "side"), kC⟩))) vc) (congrArg V.int en88.symm)) (by walk_at "side") (by walk_at "side") (by walk_at "side") ?_
                          have s89 : Hs [] H [(p82, .lst ((insI l85 n87 n88).map V.int)), (p74, .lst (((List.range (n69 % 41).toNat).map (fun (j_ : Nat) => 32 + (((n69 / 41) + (7 * (j_ : Int))) % 95))).map V.int)), (p58, .tup ((t_4.map (fun (c_ : Nat) => (c_ : Int))).map V.int)), (p48, .lst ((t_4.map (fun (c_ : Nat) => (c_ : Int))).map V.int)), (p44, .lst ((t_4.map (fun (c_ : Nat) => (c_ : Int))).map V.int)), (p_32, .lst ((t_4.map (fun (c_ : Nat) => (c_ : Int))).map V.int)), (p27, .lst ([])), (p24, .lst ([])), (p_20, .lst ((([] : List Nat).map (fun (c_ : Nat) => (c_ : Int))).map V.int))] _ := s86.wr 0 (.lst ((insI l85 n87 n88).map V.int)) rfl
                          have hil : (insI l85 n87 n88).length ≤ 100 := by unfold insI; simp; omega
                          
                          refine s_set [some (V.ref a), some (V.int n69), some (V.str (sO t_4)), some (V.ref p_32), none, some (V.ref p48), some (V.str (sO ((t_4.map (fun (c_ : Nat) => (c_ : Int))).map Int.toNat))), some (V.int n63), some (V.ref p82), none, some (V.bl true), none] vc rfl ?_
                          refine s_forL (vv 8 rfl) (s89.l 0 rfl) (fun i90 σ' H' => ∃ (y__law_code : Option V) (b : Bool), σ' = [some (V.ref a), some (V.int n69), some (V.str (sO t_4)), some (V.ref p_32), none, some (V.ref p48), some (V.str (sO ((t_4.map (fun (c_ : Nat) => (c_ : Int))).map Int.toNat))), some (V.int n63), some (V.ref p82), y__law_code, some (V.bl b), none] ∧ Hs [] H [(p82, .lst ((insI l85 n87 n88).map V.int)), (p74, .lst (((List.range (n69 % 41).toNat).map (fun (j_ : Nat) => 32 + (((n69 / 41) + (7 * (j_ : Int))) % 95))).map V.int)), (p58, .tup ((t_4.map (fun (c_ : Nat) => (c_ : Int))).map V.int)), (p48, .lst ((t_4.map (fun (c_ : Nat) => (c_ : Int))).map V.int)), (p44, .lst ((t_4.map (fun (c_ : Nat) => (c_ : Int))).map V.int)), (p_32, .lst ((t_4.map (fun (c_ : Nat) => (c_ : Int))).map V.int)), (p27, .lst ([])), (p24, .lst ([])), (p_20, .lst ((([] : List Nat).map (fun (c_ : Nat) => (c_ : Int))).map V.int))] H' ∧ (b = true ↔ ∀ n ∈ (insI l85 n87 n88).take i90, GdI n)) ?_ ?_ ?_ ?_
                          · -- start
                            refine ⟨_, true, rfl, s89.pick [0, 1, 2, 3, 4, 5, 6, 7, 8] (by decide) (by walk_at "finL"), ?_⟩
                            · exact ⟨fun _ n hn => (List.not_mem_nil hn).elim, fun _ => rfl⟩
                          · intro i90 σ' H' _ hP; obtain ⟨y__law_code, b, rfl, sI, hI0⟩ := hP
                            exact sI.l 0 rfl
                          · intro i90 x92 σ' H' h91 hP; obtain ⟨y__law_code, b, rfl, sI, hI0⟩ := hP
                            obtain ⟨n93, rfl, h91n⟩ := map_int_get h91
                            refine c_sig [some (V.ref a), some (V.int n69), some (V.str (sO t_4)), some (V.ref p_32), none, some (V.ref p48), some (V.str (sO ((t_4.map (fun (c_ : Nat) => (c_ : Int))).map Int.toNat))), some (V.int n63), some (V.ref p82), some (V.int n93), some (V.bl b), none] rfl ?_
                            refine s_set [some (V.ref a), some (V.int n69), some (V.str (sO t_4)), some (V.ref p_32), none, some (V.ref p48), some (V.str (sO ((t_4.map (fun (c_ : Nat) => (c_ : Int))).map Int.toNat))), some (V.int n63), some (V.ref p82), some (V.int n93), some (V.bl (decide ((b = true) ∧ (GdI n93)))), none] (vand (vbool (vv 10 rfl)) (fun hc => (vcall (va (vv 9 rfl) va0) (fun _ kC => ⟨n93, rfl, kC⟩)))) rfl ?_
                            refine s_nx ?_
                            refine ⟨_, decide ((b = true) ∧ (GdI n93)), rfl, sI.pick [0, 1, 2, 3, 4, 5, 6, 7, 8] (by decide) (by walk_at "finL"), ?_⟩
                            · rw [take_nextI h91n]; simp only [decide_eq_true_eq, List.mem_append, List.mem_singleton]; constructor
                              · intro hz n hn; rcases hn with hn | hn
                                · exact hI0.mp hz.1 n hn
                                · rw [hn]; exact hz.2
                              · intro hz; exact ⟨hI0.mpr fun n hn => hz n (.inl hn), hz _ (.inr rfl)⟩
                          · intro σ' H' hP; obtain ⟨y__law_code, b, rfl, sI, hI0⟩ := hP
                            rw [List.take_of_length_le (by simp)] at hI0
                            by_cases hGd : ∀ n ∈ insI l85 n87 n88, GdI n
                            · -- case True
                              refine c_set ?_
                              refine c_callx ?_
                              refine c_cons ?_
                              refine (vv 8 rfl) _ ?_
                              refine c_nil ?_
                              refine .inl ⟨p82, (insI l85 n87 n88), rfl, (sI.l 0 rfl), (by first | walk_at "side" | (unfold cutN; simp; omega) | (rw [List.length_map]; omega)), (by first | assumption | exact gd_map (by assumption) | (intro n hn; cases hn; done) | (intro n hn; rw [List.mem_singleton.mp hn]; subst_vars; assumption)), fun H94 r95 => ?_⟩
                              have s96 : Hs [] H [(p82, .lst ((insI l85 n87 n88).map V.int)), (p74, .lst (((List.range (n69 % 41).toNat).map (fun (j_ : Nat) => 32 + (((n69 / 41) + (7 * (j_ : Int))) % 95))).map V.int)), (p58, .tup ((t_4.map (fun (c_ : Nat) => (c_ : Int))).map V.int)), (p48, .lst ((t_4.map (fun (c_ : Nat) => (c_ : Int))).map V.int)), (p44, .lst ((t_4.map (fun (c_ : Nat) => (c_ : Int))).map V.int)), (p_32, .lst ((t_4.map (fun (c_ : Nat) => (c_ : Int))).map V.int)), (p27, .lst ([])), (p24, .lst ([])), (p_20, .lst ((([] : List Nat).map (fun (c_ : Nat) => (c_ : Int))).map V.int))] _ := sI.call0 r95
                              refine k_set [some (V.ref a), some (V.int n69), some (V.str (sO t_4)), some (V.ref p_32), none, some (V.ref p48), some (V.str (sO ((insI l85 n87 n88).map Int.toNat))), some (V.int n63), some (V.ref p82), y__law_code, some (V.bl b), none] rfl ?_
                              refine c_ifS ?_
                              refine c_and ?_
                              refine (vB (vbool (vv 10 rfl))) _ ?_
                              refine c_ite (p := b = true) (fun h98 => ?_) (fun h98 => ?_)
                              · -- yes
                                refine c_or ?_
                                refine c_not ?_
                                refine (vB (vbool (visi (b := true) (tu := .type "str") (vv 6 rfl) vc (ClsV.ty "str") (.base (.str _)) (kit_ty (by decide +kernel))))) _ ?_
                                refine c_iten (p := true = true) (fun h99 => ?_) (fun h99 => ?_)
                                · -- no
                                  exfalso; walk_at "dead"
                                · -- yes
                                  refine c_test ?_
                                  refine c_op ?_
                                  refine c_callx ?_
                                  refine c_cons ?_
                                  refine (vv 6 rfl) _ ?_
                                  refine c_nil ?_
                                  refine ⟨((insI l85 n87 n88).map Int.toNat), rfl, (by first | walk_at "side" | (unfold cutN; simp; omega) | (rw [List.length_map]; omega)), fun p_101 H102 r103 => ?_⟩
                                  have s104 : Hs [] H [(p_101, .lst ((((insI l85 n87 n88).map Int.toNat).map (fun (c_ : Nat) => (c_ : Int))).map V.int)), (p82, .lst ((insI l85 n87 n88).map V.int)), (p74, .lst (((List.range (n69 % 41).toNat).map (fun (j_ : Nat) => 32 + (((n69 / 41) + (7 * (j_ : Int))) % 95))).map V.int)), (p58, .tup ((t_4.map (fun (c_ : Nat) => (c_ : Int))).map V.int)), (p48, .lst ((t_4.map (fun (c_ : Nat) => (c_ : Int))).map V.int)), (p44, .lst ((t_4.map (fun (c_ : Nat) => (c_ : Int))).map V.int)), (p_32, .lst ((t_4.map (fun (c_ : Nat) => (c_ : Int))).map V.int)), (p27, .lst ([])), (p24, .lst ([])), (p_20, .lst ((([] : List Nat).map (fun (c_ : Nat) => (c_ : Int))).map V.int))] _ := s96.call0 r103
                                  refine (vv 8 rfl) _ ?_
                                  refine ⟨.list ((((insI l85 n87 n88).map Int.toNat).map (fun (c_ : Nat) => (c_ : Int))).map PyData.int), .list ((insI l85 n87 n88).map PyData.int), (.lst (s104.l 0 rfl) (dp_ints (((insI l85 n87 n88).map Int.toNat).map (fun (c_ : Nat) => (c_ : Int))))), (.lst (s104.l 1 rfl) (dp_ints (insI l85 n87 n88))), (by walk_at "shp"), (by walk_at "shp"), ?_⟩
                                  refine ⟨_, rfl, ?_⟩
                                  refine c_iteB (fun h100 => ?_) (fun h100 => ?_)
                                  · -- yes
                                    refine s_ret vc ?_
                                    exfalso; first | exact absurd (tn_map _) (by assumption) | exact bad_mid (dec_nf (by assumption)) | exact oct_dead (by assumption) (by assumption) | walk_at "dead"
                                  · -- no
                                    refine s_nxs ?_
                                    refine s_if (p := (¬ (b = true)) ∧ (V.str (sO ((insI l85 n87 n88).map Int.toNat)) ≠ V.non)) (aand (anot (vB (vbool (vv 10 rfl)))) (fun hc => (vtest (vnotN (vv 6 rfl))))) (fun h105 => ?_) (fun h105 => ?_)
                                    · -- then line 76
                                      refine s_ret vc ?_
                                      exfalso; first | exact absurd (tn_map _) (by assumption) | exact bad_mid (dec_nf (by assumption)) | exact oct_dead (by assumption) (by assumption) | walk_at "dead"
                                    · -- else line 76
                                      refine s_nxs ?_
                                      refine s_forR1 (va vc va0) ⟨by walk_at "side", by walk_at "side"⟩ (fun i106 σ' H' => ∃ (y__law_char_here : Option V) (y__law_code : Option V), σ' = [some (V.ref a), some (V.int n69), some (V.str (sO t_4)), some (V.ref p_32), y__law_char_here, some (V.ref p48), some (V.str (sO ((insI l85 n87 n88).map Int.toNat))), some (V.int n63), some (V.ref p82), y__law_code, some (V.bl b), none] ∧ Hs [] H [(p_101, .lst ((((insI l85 n87 n88).map Int.toNat).map (fun (c_ : Nat) => (c_ : Int))).map V.int)), (p82, .lst ((insI l85 n87 n88).map V.int)), (p74, .lst (((List.range (n69 % 41).toNat).map (fun (j_ : Nat) => 32 + (((n69 / 41) + (7 * (j_ : Int))) % 95))).map V.int)), (p58, .tup ((t_4.map (fun (c_ : Nat) => (c_ : Int))).map V.int)), (p48, .lst ((t_4.map (fun (c_ : Nat) => (c_ : Int))).map V.int)), (p44, .lst ((t_4.map (fun (c_ : Nat) => (c_ : Int))).map V.int)), (p_32, .lst ((t_4.map (fun (c_ : Nat) => (c_ : Int))).map V.int)), (p27, .lst ([])), (p24, .lst ([])), (p_20, .lst ((([] : List Nat).map (fun (c_ : Nat) => (c_ : Int))).map V.int))] H') ?_ ?_ ?_
                                      · -- start
                                        refine ⟨_, _, rfl, s104.pick [0, 1, 2, 3, 4, 5, 6, 7, 8, 9] (by decide) (by walk_at "finL")⟩
                                      · intro i106 σ' H' h107 hP; obtain ⟨y__law_char_here, y__law_code, rfl, sI⟩ := hP
                                        refine c_sig [some (V.ref a), some (V.int n69), some (V.str (sO t_4)), some (V.ref p_32), y__law_char_here, some (V.ref p48), some (V.str (sO ((insI l85 n87 n88).map Int.toNat))), some (V.int n63), some (V.ref p82), some (V.int (i106 : Int)), some (V.bl b), none] rfl ?_
                                        by_cases hGc : GdI (i106 : Int)
                                        · -- case True
                                          refine c_set ?_
                                          refine c_callx ?_
                                          refine c_cons ?_
                                          refine c_lst ?_
                                          refine c_cons ?_
                                          obtain ⟨n109, en109⟩ : ∃ n : Int, n = ((i106 : Int)) := ⟨_, rfl⟩
                                          refine (vis (vv 9 rfl) (congrArg V.int en109.symm)) _ ?_
                                          refine c_nil ?_
                                          refine ⟨sz1 (by show 1 ≤ 1000000; decide), fun p110 np110 => ?_⟩
                                          have s111 : Hs [] H [(p110, .lst ([V.int n109])), (p_101, .lst ((((insI l85 n87 n88).map Int.toNat).map (fun (c_ : Nat) => (c_ : Int))).map V.int)), (p82, .lst ((insI l85 n87 n88).map V.int)), (p74, .lst (((List.range (n69 % 41).toNat).map (fun (j_ : Nat) => 32 + (((n69 / 41) + (7 * (j_ : Int))) % 95))).map V.int)), (p58, .tup ((t_4.map (fun (c_ : Nat) => (c_ : Int))).map V.int)), (p48, .lst ((t_4.map (fun (c_ : Nat) => (c_ : Int))).map V.int)), (p44, .lst ((t_4.map (fun (c_ : Nat) => (c_ : Int))).map V.int)), (p_32, .lst ((t_4.map (fun (c_ : Nat) => (c_ : Int))).map V.int)), (p27, .lst ([])), (p24, .lst ([])), (p_20, .lst ((([] : List Nat).map (fun (c_ : Nat) => (c_ : Int))).map V.int))] _ := sI.new np110 (.lst ([V.int n109]))
                                          refine c_nil ?_
                                          refine .inl ⟨p110, ([n109]), rfl, (s111.l 0 rfl), (by first | walk_at "side" | (unfold cutN; simp; omega) | (rw [List.length_map]; omega)), (by first | assumption | exact gd_map (by assumption) | (intro n hn; cases hn; done) | (intro n hn; rw [List.mem_singleton.mp hn]; subst_vars; assumption)), fun H112 r113 => ?_⟩
                                          have s114 : Hs [] H [(p110, .lst ([V.int n109])), (p_101, .lst ((((insI l85 n87 n88).map Int.toNat).map (fun (c_ : Nat) => (c_ : Int))).map V.int)), (p82, .lst ((insI l85 n87 n88).map V.int)), (p74, .lst (((List.range (n69 % 41).toNat).map (fun (j_ : Nat) => 32 + (((n69 / 41) + (7 * (j_ : Int))) % 95))).map V.int)), (p58, .tup ((t_4.map (fun (c_ : Nat) => (c_ : Int))).map V.int)), (p48, .lst ((t_4.map (fun (c_ : Nat) => (c_ : Int))).map V.int)), (p44, .lst ((t_4.map (fun (c_ : Nat) => (c_ : Int))).map V.int)), (p_32, .lst ((t_4.map (fun (c_ : Nat) => (c_ : Int))).map V.int)), (p27, .lst ([])), (p24, .lst ([])), (p_20, .lst ((([] : List Nat).map (fun (c_ : Nat) => (c_ : Int))).map V.int))] _ := s111.call0 r113
                                          refine k_set [some (V.ref a), some (V.int n69), some (V.str (sO t_4)), some (V.ref p_32), some (V.str (sO (([n109]).map Int.toNat))), some (V.ref p48), some (V.str (sO ((insI l85 n87 n88).map Int.toNat))), some (V.int n63), some (V.ref p82), some (V.int (i106 : Int)), some (V.bl b), none] rfl ?_
                                          refine s_if (p := (GdI (i106 : Int)) ∧ ((V.str (sO (([n109]).map Int.toNat)) = V.non) ∨ ((((([n109]).map Int.toNat).length : Int) ≠ 1) ∨ (((Int.toNat n109 : Nat) : Int) ≠ (i106 : Int))))) (aand (vB (vcall (va (vv 9 rfl) va0) (fun _ kC => ⟨(i106 : Int), rfl, kC⟩))) (fun hc => (aor (vtest (visN (vv 4 rfl))) (fun hc => (aor (vtest (vne (vlenS (a := (([n109]).map Int.toNat)) (by walk_at "side") (vv 4 rfl)) vc)) (fun hc => (vtest (vne (vord (vis (vv 4 rfl) (w := .str (sO [Int.toNat n109])) (by rfl))) (vv 9 rfl))))))))) (fun h115 => ?_) (fun h115 => ?_)
                                          · -- then line 80
                                            refine s_ret vc ?_
                                            exfalso; first | exact absurd (tn_map _) (by assumption) | exact bad_mid (dec_nf (by assumption)) | exact oct_dead (by assumption) (by assumption) | walk_at "dead"
                                          · -- else line 80
                                            refine s_nxs ?_
                                            refine s_if (p := (¬ (GdI (i106 : Int))) ∧ (V.str (sO (([n109]).map Int.toNat)) ≠ V.non)) (aand (anot (vB (vcall (va (vv 9 rfl) va0) (fun _ kC => ⟨(i106 : Int), rfl, kC⟩)))) (fun hc => (vtest (vnotN (vv 4 rfl))))) (fun h116 => ?_) (fun h116 => ?_)
                                            · -- then line 82
                                              refine s_ret vc ?_
                                              exfalso; first | exact absurd (tn_map _) (by assumption) | exact bad_mid (dec_nf (by assumption)) | exact oct_dead (by assumption) (by assumption) | walk_at "dead"
                                            · -- else line 82
                                              refine s_nxs ?_
                                              refine s_nx ?_
                                              refine ⟨_, _, rfl, s114.pick [1, 2, 3, 4, 5, 6, 7, 8, 9, 10] (by decide) (by walk_at "finL")⟩
                                        · -- case False
                                          refine c_set ?_
                                          refine c_callx ?_
                                          refine c_cons ?_
                                          refine c_lst ?_
                                          refine c_cons ?_
                                          obtain ⟨n117, en117⟩ : ∃ n : Int, n = ((i106 : Int)) := ⟨_, rfl⟩
                                          refine (vis (vv 9 rfl) (congrArg V.int en117.symm)) _ ?_
                                          refine c_nil ?_
                                          refine ⟨sz1 (by show 1 ≤ 1000000; decide), fun p118 np118 => ?_⟩
                                          have s119 : Hs [] H [(p118, .lst ([V.int n117])), (p_101, .lst ((((insI l85 n87 n88).map Int.toNat).map (fun (c_ : Nat) => (c_ : Int))).map V.int)), (p82, .lst ((insI l85 n87 n88).map V.int)), (p74, .lst (((List.range (n69 % 41).toNat).map (fun (j_ : Nat) => 32 + (((n69 / 41) + (7 * (j_ : Int))) % 95))).map V.int)), (p58, .tup ((t_4.map (fun (c_ : Nat) => (c_ : Int))).map V.int)), (p48, .lst ((t_4.map (fun (c_ : Nat) => (c_ : Int))).map V.int)), (p44, .lst ((t_4.map (fun (c_ : Nat) => (c_ : Int))).map V.int)), (p_32, .lst ((t_4.map (fun (c_ : Nat) => (c_ : Int))).map V.int)), (p27, .lst ([])), (p24, .lst ([])), (p_20, .lst ((([] : List Nat).map (fun (c_ : Nat) => (c_ : Int))).map V.int))] _ := sI.new np118 (.lst ([V.int n117]))
                                          refine c_nil ?_
                                          refine .inr (.inl ⟨p118, ([n117]), rfl, (s119.l 0 rfl), (by first | walk_at "side" | (unfold cutN; simp; omega) | (rw [List.length_map]; omega)), (by first | assumption | (intro z; have := z _ List.mem_cons_self; subst_vars; contradiction)), fun H120 r121 => ?_⟩)
                                          have s122 : Hs [] H [(p118, .lst ([V.int n117])), (p_101, .lst ((((insI l85 n87 n88).map Int.toNat).map (fun (c_ : Nat) => (c_ : Int))).map V.int)), (p82, .lst ((insI l85 n87 n88).map V.int)), (p74, .lst (((List.range (n69 % 41).toNat).map (fun (j_ : Nat) => 32 + (((n69 / 41) + (7 * (j_ : Int))) % 95))).map V.int)), (p58, .tup ((t_4.map (fun (c_ : Nat) => (c_ : Int))).map V.int)), (p48, .lst ((t_4.map (fun (c_ : Nat) => (c_ : Int))).map V.int)), (p44, .lst ((t_4.map (fun (c_ : Nat) => (c_ : Int))).map V.int)), (p_32, .lst ((t_4.map (fun (c_ : Nat) => (c_ : Int))).map V.int)), (p27, .lst ([])), (p24, .lst ([])), (p_20, .lst ((([] : List Nat).map (fun (c_ : Nat) => (c_ : Int))).map V.int))] _ := s119.call0 r121
                                          refine k_set [some (V.ref a), some (V.int n69), some (V.str (sO t_4)), some (V.ref p_32), some (V.non), some (V.ref p48), some (V.str (sO ((insI l85 n87 n88).map Int.toNat))), some (V.int n63), some (V.ref p82), some (V.int (i106 : Int)), some (V.bl b), none] rfl ?_
                                          refine c_ifS ?_
                                          refine c_and ?_
                                          refine (vB (vcall (va (vv 9 rfl) va0) (fun _ kC => ⟨(i106 : Int), rfl, kC⟩))) _ ?_
                                          refine c_ite (p := GdI (i106 : Int)) (fun h124 => ?_) (fun h124 => ?_)
                                          · -- yes
                                            refine c_or ?_
                                            refine (vtest (visN (vv 4 rfl))) _ ?_
                                            refine c_ite (p := V.non = V.non) (fun h125 => ?_) (fun h125 => ?_)
                                            · -- yes
                                              refine iteT ?_
                                              refine s_ret vc ?_
                                              exfalso; first | exact absurd (tn_map _) (by assumption) | exact bad_mid (dec_nf (by assumption)) | exact oct_dead (by assumption) (by assumption) | walk_at "dead"
                                            · -- no
                                              exfalso; walk_at "dead"
                                          · -- no
                                            refine iteF ?_
                                            refine s_nxs ?_
                                            refine s_if (p := (¬ (GdI (i106 : Int))) ∧ (V.non ≠ V.non)) (aand (anot (vB (vcall (va (vv 9 rfl) va0) (fun _ kC => ⟨(i106 : Int), rfl, kC⟩)))) (fun hc => (vtest (vnotN (vv 4 rfl))))) (fun h126 => ?_) (fun h126 => ?_)
                                            · -- then line 82
                                              exfalso; walk_at "dead"
                                            · -- else line 82
                                              refine s_nxs ?_
                                              refine s_nx ?_
                                              refine ⟨_, _, rfl, s122.pick [1, 2, 3, 4, 5, 6, 7, 8, 9, 10] (by decide) (by walk_at "finL")⟩
                                      · intro σ' H' hP; obtain ⟨y__law_char_here, y__law_code, rfl, sI⟩ := hP
                                        refine s_ret vc ?_
                                        exact fin (kq _) (by walk_at "fin")
                              · -- no
                                refine iteF ?_
                                refine s_nxs ?_
                                refine s_if (p := (¬ (b = true)) ∧ (V.str (sO ((insI l85 n87 n88).map Int.toNat)) ≠ V.non)) (aand (anot (vB (vbool (vv 10 rfl)))) (fun hc => (vtest (vnotN (vv 6 rfl))))) (fun h127 => ?_) (fun h127 => ?_)
                                · -- then line 76
                                  refine s_ret vc ?_
                                  exfalso; first | exact absurd (tn_map _) (by assumption) | exact bad_mid (dec_nf (by assumption)) | exact oct_dead (by assumption) (by assumption) | walk_at "dead"
                                · -- else line 76
                                  refine s_nxs ?_
                                  refine s_forR1 (va vc va0) ⟨by walk_at "side", by walk_at "side"⟩ (fun i128 σ' H' => ∃ (y__law_char_here : Option V) (y__law_code : Option V), σ' = [some (V.ref a), some (V.int n69), some (V.str (sO t_4)), some (V.ref p_32), y__law_char_here, some (V.ref p48), some (V.str (sO ((insI l85 n87 n88).map Int.toNat))), some (V.int n63), some (V.ref p82), y__law_code, some (V.bl b), none] ∧ Hs [] H [(p82, .lst ((insI l85 n87 n88).map V.int)), (p74, .lst (((List.range (n69 % 41).toNat).map (fun (j_ : Nat) => 32 + (((n69 / 41) + (7 * (j_ : Int))) % 95))).map V.int)), (p58, .tup ((t_4.map (fun (c_ : Nat) => (c_ : Int))).map V.int)), (p48, .lst ((t_4.map (fun (c_ : Nat) => (c_ : Int))).map V.int)), (p44, .lst ((t_4.map (fun (c_ : Nat) => (c_ : Int))).map V.int)), (p_32, .lst ((t_4.map (fun (c_ : Nat) => (c_ : Int))).map V.int)), (p27, .lst ([])), (p24, .lst ([])), (p_20, .lst ((([] : List Nat).map (fun (c_ : Nat) => (c_ : Int))).map V.int))] H') ?_ ?_ ?_
                                  · -- start
                                    refine ⟨_, _, rfl, s96.pick [0, 1, 2, 3, 4, 5, 6, 7, 8] (by decide) (by walk_at "finL")⟩
                                  · intro i128 σ' H' h129 hP; obtain ⟨y__law_char_here, y__law_code, rfl, sI⟩ := hP
                                    refine c_sig [some (V.ref a), some (V.int n69), some (V.str (sO t_4)), some (V.ref p_32), y__law_char_here, some (V.ref p48), some (V.str (sO ((insI l85 n87 n88).map Int.toNat))), some (V.int n63), some (V.ref p82), some (V.int (i128 : Int)), some (V.bl b), none] rfl ?_
                                    by_cases hGc : GdI (i128 : Int)
                                    · -- case True
                                      refine c_set ?_
                                      refine c_callx ?_
                                      refine c_cons ?_
                                      refine c_lst ?_
                                      refine c_cons ?_
                                      obtain ⟨n131, en131⟩ : ∃ n : Int, n = ((i128 : Int)) := ⟨_, rfl⟩
                                      refine (vis (vv 9 rfl) (congrArg V.int en131.symm)) _ ?_
                                      refine c_nil ?_
                                      refine ⟨sz1 (by show 1 ≤ 1000000; decide), fun p132 np132 => ?_⟩
                                      have s133 : Hs [] H [(p132, .lst ([V.int n131])), (p82, .lst ((insI l85 n87 n88).map V.int)), (p74, .lst (((List.range (n69 % 41).toNat).map (fun (j_ : Nat) => 32 + (((n69 / 41) + (7 * (j_ : Int))) % 95))).map V.int)), (p58, .tup ((t_4.map (fun (c_ : Nat) => (c_ : Int))).map V.int)), (p48, .lst ((t_4.map (fun (c_ : Nat) => (c_ : Int))).map V.int)), (p44, .lst ((t_4.map (fun (c_ : Nat) => (c_ : Int))).map V.int)), (p_32, .lst ((t_4.map (fun (c_ : Nat) => (c_ : Int))).map V.int)), (p27, .lst ([])), (p24, .lst ([])), (p_20, .lst ((([] : List Nat).map (fun (c_ : Nat) => (c_ : Int))).map V.int))] _ := sI.new np132 (.lst ([V.int n131]))
                                      refine c_nil ?_
                                      refine .inl ⟨p132, ([n131]), rfl, (s133.l 0 rfl), (by first | walk_at "side" | (unfold cutN; simp; omega) | (rw [List.length_map]; omega)), (by first | assumption | exact gd_map (by assumption) | (intro n hn; cases hn; done) | (intro n hn; rw [List.mem_singleton.mp hn]; subst_vars; assumption)), fun H134 r135 => ?_⟩
                                      have s136 : Hs [] H [(p132, .lst ([V.int n131])), (p82, .lst ((insI l85 n87 n88).map V.int)), (p74, .lst (((List.range (n69 % 41).toNat).map (fun (j_ : Nat) => 32 + (((n69 / 41) + (7 * (j_ : Int))) % 95))).map V.int)), (p58, .tup ((t_4.map (fun (c_ : Nat) => (c_ : Int))).map V.int)), (p48, .lst ((t_4.map (fun (c_ : Nat) => (c_ : Int))).map V.int)), (p44, .lst ((t_4.map (fun (c_ : Nat) => (c_ : Int))).map V.int)), (p_32, .lst ((t_4.map (fun (c_ : Nat) => (c_ : Int))).map V.int)), (p27, .lst ([])), (p24, .lst ([])), (p_20, .lst ((([] : List Nat).map (fun (c_ : Nat) => (c_ : Int))).map V.int))] _ := s133.call0 r135
                                      refine k_set [some (V.ref a), some (V.int n69), some (V.str (sO t_4)), some (V.ref p_32), some (V.str (sO (([n131]).map Int.toNat))), some (V.ref p48), some (V.str (sO ((insI l85 n87 n88).map Int.toNat))), some (V.int n63), some (V.ref p82), some (V.int (i128 : Int)), some (V.bl b), none] rfl ?_
                                      refine s_if (p := (GdI (i128 : Int)) ∧ ((V.str (sO (([n131]).map Int.toNat)) = V.non) ∨ ((((([n131]).map Int.toNat).length : Int) ≠ 1) ∨ (((Int.toNat n131 : Nat) : Int) ≠ (i128 : Int))))) (aand (vB (vcall (va (vv 9 rfl) va0) (fun _ kC => ⟨(i128 : Int), rfl, kC⟩))) (fun hc => (aor (vtest (visN (vv 4 rfl))) (fun hc => (aor (vtest (vne (vlenS (a := (([n131]).map Int.toNat)) (by walk_at "side") (vv 4 rfl)) vc)) (fun hc => (vtest (vne (vord (vis (vv 4 rfl) (w := .str (sO [Int.toNat n131])) (by rfl))) (vv 9 rfl))))))))) (fun h137 => ?_) (fun h137 => ?_)
                                      · -- then line 80
                                        refine s_ret vc ?_
                                        exfalso; first | exact absurd (tn_map _) (by assumption) | exact bad_mid (dec_nf (by assumption)) | exact oct_dead (by assumption) (by assumption) | walk_at "dead"
                                      · -- else line 80
                                        refine s_nxs ?_
                                        refine s_if (p := (¬ (GdI (i128 : Int))) ∧ (V.str (sO (([n131]).map Int.toNat)) ≠ V.non)) (aand (anot (vB (vcall (va (vv 9 rfl) va0) (fun _ kC => ⟨(i128 : Int), rfl, kC⟩)))) (fun hc => (vtest (vnotN (vv 4 rfl))))) (fun h138 => ?_) (fun h138 => ?_)
                                        · -- then line 82
                                          refine s_ret vc ?_
                                          exfalso; first | exact absurd (tn_map _) (by assumption) | exact bad_mid (dec_nf (by assumption)) | exact oct_dead (by assumption) (by assumption) | walk_at "dead"
                                        · -- else line 82
                                          refine s_nxs ?_
                                          refine s_nx ?_
                                          refine ⟨_, _, rfl, s136.pick [1, 2, 3, 4, 5, 6, 7, 8, 9] (by decide) (by walk_at "finL")⟩
                                    · -- case False
                                      refine c_set ?_
                                      refine c_callx ?_
                                      refine c_cons ?_
                                      refine c_lst ?_
                                      refine c_cons ?_
                                      obtain ⟨n139, en139⟩ : ∃ n : Int, n = ((i128 : Int)) := ⟨_, rfl⟩
                                      refine (vis (vv 9 rfl) (congrArg V.int en139.symm)) _ ?_
                                      refine c_nil ?_
                                      refine ⟨sz1 (by show 1 ≤ 1000000; decide), fun p140 np140 => ?_⟩
                                      have s141 : Hs [] H [(p140, .lst ([V.int n139])), (p82, .lst ((insI l85 n87 n88).map V.int)), (p74, .lst (((List.range (n69 % 41).toNat).map (fun (j_ : Nat) => 32 + (((n69 / 41) + (7 * (j_ : Int))) % 95))).map V.int)), (p58, .tup ((t_4.map (fun (c_ : Nat) => (c_ : Int))).map V.int)), (p48, .lst ((t_4.map (fun (c_ : Nat) => (c_ : Int))).map V.int)), (p44, .lst ((t_4.map (fun (c_ : Nat) => (c_ : Int))).map V.int)), (p_32, .lst ((t_4.map (fun (c_ : Nat) => (c_ : Int))).map V.int)), (p27, .lst ([])), (p24, .lst ([])), (p_20, .lst ((([] : List Nat).map (fun (c_ : Nat) => (c_ : Int))).map V.int))] _ := sI.new np140 (.lst ([V.int n139]))
                                      refine c_nil ?_
                                      refine .inr (.inl ⟨p140, ([n139]), rfl, (s141.l 0 rfl), (by first | walk_at "side" | (unfold cutN; simp; omega) | (rw [List.length_map]; omega)), (by first | assumption | (intro z; have := z _ List.mem_cons_self; subst_vars; contradiction)), fun H142 r143 => ?_⟩)
                                      have s144 : Hs [] H [(p140, .lst ([V.int n139])), (p82, .lst ((insI l85 n87 n88).map V.int)), (p74, .lst (((List.range (n69 % 41).toNat).map (fun (j_ : Nat) => 32 + (((n69 / 41) + (7 * (j_ : Int))) % 95))).map V.int)), (p58, .tup ((t_4.map (fun (c_ : Nat) => (c_ : Int))).map V.int)), (p48, .lst ((t_4.map (fun (c_ : Nat) => (c_ : Int))).map V.int)), (p44, .lst ((t_4.map (fun (c_ : Nat) => (c_ : Int))).map V.int)), (p_32, .lst ((t_4.map (fun (c_ : Nat) => (c_ : Int))).map V.int)), (p27, .lst ([])), (p24, .lst ([])), (p_20, .lst ((([] : List Nat).map (fun (c_ : Nat) => (c_ : Int))).map V.int))] _ := s141.call0 r143
                                      refine k_set [some (V.ref a), some (V.int n69), some (V.str (sO t_4)), some (V.ref p_32), some (V.non), some (V.ref p48), some (V.str (sO ((insI l85 n87 n88).map Int.toNat))), some (V.int n63), some (V.ref p82), some (V.int (i128 : Int)), some (V.bl b), none] rfl ?_
                                      refine c_ifS ?_
                                      refine c_and ?_
                                      refine (vB (vcall (va (vv 9 rfl) va0) (fun _ kC => ⟨(i128 : Int), rfl, kC⟩))) _ ?_
                                      refine c_ite (p := GdI (i128 : Int)) (fun h146 => ?_) (fun h146 => ?_)
                                      · -- yes
                                        refine c_or ?_
                                        refine (vtest (visN (vv 4 rfl))) _ ?_
                                        refine c_ite (p := V.non = V.non) (fun h147 => ?_) (fun h147 => ?_)
                                        · -- yes
                                          refine iteT ?_
                                          refine s_ret vc ?_
                                          exfalso; first | exact absurd (tn_map _) (by assumption) | exact bad_mid (dec_nf (by assumption)) | exact oct_dead (by assumption) (by assumption) | walk_at "dead"
                                        · -- no
                                          exfalso; walk_at "dead"
                                      · -- no
                                        refine iteF ?_
                                        refine s_nxs ?_
                                        refine s_if (p := (¬ (GdI (i128 : Int))) ∧ (V.non ≠ V.non)) (aand (anot (vB (vcall (va (vv 9 rfl) va0) (fun _ kC => ⟨(i128 : Int), rfl, kC⟩)))) (fun hc => (vtest (vnotN (vv 4 rfl))))) (fun h148 => ?_) (fun h148 => ?_)
                                        · -- then line 82
                                          exfalso; walk_at "dead"
                                        · -- else line 82
                                          refine s_nxs ?_
                                          refine s_nx ?_
                                          refine ⟨_, _, rfl, s144.pick [1, 2, 3, 4, 5, 6, 7, 8, 9] (by decide) (by walk_at "finL")⟩
                                  · intro σ' H' hP; obtain ⟨y__law_char_here, y__law_code, rfl, sI⟩ := hP
                                    refine s_ret vc ?_
                                    exact fin (kq _) (by walk_at "fin")
                            · -- case False
                              refine c_set ?_
                              refine c_callx ?_
                              refine c_cons ?_
                              refine (vv 8 rfl) _ ?_
                              refine c_nil ?_
                              refine .inr (.inl ⟨p82, (insI l85 n87 n88), rfl, (sI.l 0 rfl), (by first | walk_at "side" | (unfold cutN; simp; omega) | (rw [List.length_map]; omega)), (by first | assumption | (intro z; have := z _ List.mem_cons_self; subst_vars; contradiction)), fun H149 r150 => ?_⟩)
                              have s151 : Hs [] H [(p82, .lst ((insI l85 n87 n88).map V.int)), (p74, .lst (((List.range (n69 % 41).toNat).map (fun (j_ : Nat) => 32 + (((n69 / 41) + (7 * (j_ : Int))) % 95))).map V.int)), (p58, .tup ((t_4.map (fun (c_ : Nat) => (c_ : Int))).map V.int)), (p48, .lst ((t_4.map (fun (c_ : Nat) => (c_ : Int))).map V.int)), (p44, .lst ((t_4.map (fun (c_ : Nat) => (c_ : Int))).map V.int)), (p_32, .lst ((t_4.map (fun (c_ : Nat) => (c_ : Int))).map V.int)), (p27, .lst ([])), (p24, .lst ([])), (p_20, .lst ((([] : List Nat).map (fun (c_ : Nat) => (c_ : Int))).map V.int))] _ := sI.call0 r150
                              refine k_set [some (V.ref a), some (V.int n69), some (V.str (sO t_4)), some (V.ref p_32), none, some (V.ref p48), some (V.non), some (V.int n63), some (V.ref p82), y__law_code, some (V.bl b), none] rfl ?_
                              refine c_ifS ?_
                              refine c_and ?_
                              refine (vB (vbool (vv 10 rfl))) _ ?_
                              refine c_ite (p := b = true) (fun h153 => ?_) (fun h153 => ?_)
                              · -- yes
                                refine c_or ?_
                                refine c_not ?_
                                refine (vB (vbool (visi (b := false) (tu := .type "NoneType") (vv 6 rfl) vc (ClsV.ty "str") (.base .non) (kit_ty (by decide +kernel))))) _ ?_
                                refine c_iten (p := false = true) (fun h154 => ?_) (fun h154 => ?_)
                                · -- no
                                  refine iteT ?_
                                  refine s_ret vc ?_
                                  exfalso; first | exact absurd (tn_map _) (by assumption) | exact bad_mid (dec_nf (by assumption)) | exact oct_dead (by assumption) (by assumption) | walk_at "dead"
                                · -- yes
                                  exfalso; walk_at "dead"
                              · -- no
                                refine iteF ?_
                                refine s_nxs ?_
                                refine s_if (p := (¬ (b = true)) ∧ (V.non ≠ V.non)) (aand (anot (vB (vbool (vv 10 rfl)))) (fun hc => (vtest (vnotN (vv 6 rfl))))) (fun h155 => ?_) (fun h155 => ?_)
                                · -- then line 76
                                  exfalso; walk_at "dead"
                                · -- else line 76
                                  refine s_nxs ?_
                                  refine s_forR1 (va vc va0) ⟨by walk_at "side", by walk_at "side"⟩ (fun i156 σ' H' => ∃ (y__law_char_here : Option V) (y__law_code : Option V), σ' = [some (V.ref a), some (V.int n69), some (V.str (sO t_4)), some (V.ref p_32), y__law_char_here, some (V.ref p48), some (V.non), some (V.int n63), some (V.ref p82), y__law_code, some (V.bl b), none] ∧ Hs [] H [(p82, .lst ((insI l85 n87 n88).map V.int)), (p74, .lst (((List.range (n69 % 41).toNat).map (fun (j_ : Nat) => 32 + (((n69 / 41) + (7 * (j_ : Int))) % 95))).map V.int)), (p58, .tup ((t_4.map (fun (c_ : Nat) => (c_ : Int))).map V.int)), (p48, .lst ((t_4.map (fun (c_ : Nat) => (c_ : Int))).map V.int)), (p44, .lst ((t_4.map (fun (c_ : Nat) => (c_ : Int))).map V.int)), (p_32, .lst ((t_4.map (fun (c_ : Nat) => (c_ : Int))).map V.int)), (p27, .lst ([])), (p24, .lst ([])), (p_20, .lst ((([] : List Nat).map (fun (c_ : Nat) => (c_ : Int))).map V.int))] H') ?_ ?_ ?_
                                  · -- start
                                    refine ⟨_, _, rfl, s151.pick [0, 1, 2, 3, 4, 5, 6, 7, 8] (by decide) (by walk_at "finL")⟩
                                  · intro i156 σ' H' h157 hP; obtain ⟨y__law_char_here, y__law_code, rfl, sI⟩ := hP
                                    refine c_sig [some (V.ref a), some (V.int n69), some (V.str (sO t_4)), some (V.ref p_32), y__law_char_here, some (V.ref p48), some (V.non), some (V.int n63), some (V.ref p82), some (V.int (i156 : Int)), some (V.bl b), none] rfl ?_
                                    by_cases hGc : GdI (i156 : Int)
                                    · -- case True
                                      refine c_set ?_
                                      refine c_callx ?_
                                      refine c_cons ?_
                                      refine c_lst ?_
                                      refine c_cons ?_
                                      obtain ⟨n159, en159⟩ : ∃ n : Int, n = ((i156 : Int)) := ⟨_, rfl⟩
                                      refine (vis (vv 9 rfl) (congrArg V.int en159.symm)) _ ?_
                                      refine c_nil ?_
                                      refine ⟨sz1 (by show 1 ≤ 1000000; decide), fun p160 np160 => ?_⟩
                                      have s161 : Hs [] H [(p160, .lst ([V.int n159])), (p82, .lst ((insI l85 n87 n88).map V.int)), (p74, .lst (((List.range (n69 % 41).toNat).map (fun (j_ : Nat) => 32 + (((n69 / 41) + (7 * (j_ : Int))) % 95))).map V.int)), (p58, .tup ((t_4.map (fun (c_ : Nat) => (c_ : Int))).map V.int)), (p48, .lst ((t_4.map (fun (c_ : Nat) => (c_ : Int))).map V.int)), (p44, .lst ((t_4.map (fun (c_ : Nat) => (c_ : Int))).map V.int)), (p_32, .lst ((t_4.map (fun (c_ : Nat) => (c_ : Int))).map V.int)), (p27, .lst ([])), (p24, .lst ([])), (p_20, .lst ((([] : List Nat).map (fun (c_ : Nat) => (c_ : Int))).map V.int))] _ := sI.new np160 (.lst ([V.int n159]))
                                      refine c_nil ?_
                                      refine .inl ⟨p160, ([n159]), rfl, (s161.l 0 rfl), (by first | walk_at "side" | (unfold cutN; simp; omega) | (rw [List.length_map]; omega)), (by first | assumption | exact gd_map (by assumption) | (intro n hn; cases hn; done) | (intro n hn; rw [List.mem_singleton.mp hn]; subst_vars; assumption)), fun H162 r163 => ?_⟩
                                      have s164 : Hs [] H [(p160, .lst ([V.int n159])), (p82, .lst ((insI l85 n87 n88).map V.int)), (p74, .lst (((List.range (n69 % 41).toNat).map (fun (j_ : Nat) => 32 + (((n69 / 41) + (7 * (j_ : Int))) % 95))).map V.int)), (p58, .tup ((t_4.map (fun (c_ : Nat) => (c_ : Int))).map V.int)), (p48, .lst ((t_4.map (fun (c_ : Nat) => (c_ : Int))).map V.int)), (p44, .lst ((t_4.map (fun (c_ : Nat) => (c_ : Int))).map V.int)), (p_32, .lst ((t_4.map (fun (c_ : Nat) => (c_ : Int))).map V.int)), (p27, .lst ([])), (p24, .lst ([])), (p_20, .lst ((([] : List Nat).map (fun (c_ : Nat) => (c_ : Int))).map V.int))] _ := s161.call0 r163
                                      refine k_set [some (V.ref a), some (V.int n69), some (V.str (sO t_4)), some (V.ref p_32), some (V.str (sO (([n159]).map Int.toNat))), some (V.ref p48), some (V.non), some (V.int n63), some (V.ref p82), some (V.int (i156 : Int)), some (V.bl b), none] rfl ?_
                                      refine s_if (p := (GdI (i156 : Int)) ∧ ((V.str (sO (([n159]).map Int.toNat)) = V.non) ∨ ((((([n159]).map Int.toNat).length : Int) ≠ 1) ∨ (((Int.toNat n159 : Nat) : Int) ≠ (i156 : Int))))) (aand (vB (vcall (va (vv 9 rfl) va0) (fun _ kC => ⟨(i156 : Int), rfl, kC⟩))) (fun hc => (aor (vtest (visN (vv 4 rfl))) (fun hc => (aor (vtest (vne (vlenS (a := (([n159]).map Int.toNat)) (by walk_at "side") (vv 4 rfl)) vc)) (fun hc => (vtest (vne (vord (vis (vv 4 rfl) (w := .str (sO [Int.toNat n159])) (by rfl))) (vv 9 rfl))))))))) (fun h165 => ?_) (fun h165 => ?_)
                                      · -- then line 80
                                        refine s_ret vc ?_
                                        exfalso; first | exact absurd (tn_map _) (by assumption) | exact bad_mid (dec_nf (by assumption)) | exact oct_dead (by assumption) (by assumption) | walk_at "dead"
                                      · -- else line 80
                                        refine s_nxs ?_
                                        refine s_if (p := (¬ (GdI (i156 : Int))) ∧ (V.str (sO (([n159]).map Int.toNat)) ≠ V.non)) (aand (anot (vB (vcall (va (vv 9 rfl) va0) (fun _ kC => ⟨(i156 : Int), rfl, kC⟩)))) (fun hc => (vtest (vnotN (vv 4 rfl))))) (fun h166 => ?_) (fun h166 => ?_)
                                        · -- then line 82
                                          refine s_ret vc ?_
                                          exfalso; first | exact absurd (tn_map _) (by assumption) | exact bad_mid (dec_nf (by assumption)) | exact oct_dead (by assumption) (by assumption) | walk_at "dead"
                                        · -- else line 82
                                          refine s_nxs ?_
                                          refine s_nx ?_
                                          refine ⟨_, _, rfl, s164.pick [1, 2, 3, 4, 5, 6, 7, 8, 9] (by decide) (by walk_at "finL")⟩
                                    · -- case False
                                      refine c_set ?_
                                      refine c_callx ?_
                                      refine c_cons ?_
                                      refine c_lst ?_
                                      refine c_cons ?_
                                      obtain ⟨n167, en167⟩ : ∃ n : Int, n = ((i156 : Int)) := ⟨_, rfl⟩
                                      refine (vis (vv 9 rfl) (congrArg V.int en167.symm)) _ ?_
                                      refine c_nil ?_
                                      refine ⟨sz1 (by show 1 ≤ 1000000; decide), fun p168 np168 => ?_⟩
                                      have s169 : Hs [] H [(p168, .lst ([V.int n167])), (p82, .lst ((insI l85 n87 n88).map V.int)), (p74, .lst (((List.range (n69 % 41).toNat).map (fun (j_ : Nat) => 32 + (((n69 / 41) + (7 * (j_ : Int))) % 95))).map V.int)), (p58, .tup ((t_4.map (fun (c_ : Nat) => (c_ : Int))).map V.int)), (p48, .lst ((t_4.map (fun (c_ : Nat) => (c_ : Int))).map V.int)), (p44, .lst ((t_4.map (fun (c_ : Nat) => (c_ : Int))).map V.int)), (p_32, .lst ((t_4.map (fun (c_ : Nat) => (c_ : Int))).map V.int)), (p27, .lst ([])), (p24, .lst ([])), (p_20, .lst ((([] : List Nat).map (fun (c_ : Nat) => (c_ : Int))).map V.int))] _ := sI.new np168 (.lst ([V.int n167]))
                                      refine c_nil ?_
                                      refine .inr (.inl ⟨p168, ([n167]), rfl, (s169.l 0 rfl), (by first | walk_at "side" | (unfold cutN; simp; omega) | (rw [List.length_map]; omega)), (by first | assumption | (intro z; have := z _ List.mem_cons_self; subst_vars; contradiction)), fun H170 r171 => ?_⟩)
                                      have s172 : Hs [] H [(p168, .lst ([V.int n167])), (p82, .lst ((insI l85 n87 n88).map V.int)), (p74, .lst (((List.range (n69 % 41).toNat).map (fun (j_ : Nat) => 32 + (((n69 / 41) + (7 * (j_ : Int))) % 95))).map V.int)), (p58, .tup ((t_4.map (fun (c_ : Nat) => (c_ : Int))).map V.int)), (p48, .lst ((t_4.map (fun (c_ : Nat) => (c_ : Int))).map V.int)), (p44, .lst ((t_4.map (fun (c_ : Nat) => (c_ : Int))).map V.int)), (p_32, .lst ((t_4.map (fun (c_ : Nat) => (c_ : Int))).map V.int)), (p27, .lst ([])), (p24, .lst ([])), (p_20, .lst ((([] : List Nat).map (fun (c_ : Nat) => (c_ : Int))).map V.int))] _ := s169.call0 r171
                                      refine k_set [some (V.ref a), some (V.int n69), some (V.str (sO t_4)), some (V.ref p_32), some (V.non), some (V.ref p48), some (V.non), some (V.int n63), some (V.ref p82), some (V.int (i156 : Int)), some (V.bl b), none] rfl ?_
                                      refine c_ifS ?_
                                      refine c_and ?_
                                      refine (vB (vcall (va (vv 9 rfl) va0) (fun _ kC => ⟨(i156 : Int), rfl, kC⟩))) _ ?_
                                      refine c_ite (p := GdI (i156 : Int)) (fun h174 => ?_) (fun h174 => ?_)
                                      · -- yes
                                        refine c_or ?_
                                        refine (vtest (visN (vv 4 rfl))) _ ?_
                                        refine c_ite (p := V.non = V.non) (fun h175 => ?_) (fun h175 => ?_)
                                        · -- yes
                                          refine iteT ?_
                                          refine s_ret vc ?_
                                          exfalso; first | exact absurd (tn_map _) (by assumption) | exact bad_mid (dec_nf (by assumption)) | exact oct_dead (by assumption) (by assumption) | walk_at "dead"
                                        · -- no
                                          exfalso; walk_at "dead"
                                      · -- no
                                        refine iteF ?_
                                        refine s_nxs ?_
                                        refine s_if (p := (¬ (GdI (i156 : Int))) ∧ (V.non ≠ V.non)) (aand (anot (vB (vcall (va (vv 9 rfl) va0) (fun _ kC => ⟨(i156 : Int), rfl, kC⟩)))) (fun hc => (vtest (vnotN (vv 4 rfl))))) (fun h176 => ?_) (fun h176 => ?_)
                                        · -- then line 82
                                          exfalso; walk_at "dead"
                                        · -- else line 82
                                          refine s_nxs ?_
                                          refine s_nx ?_
                                          refine ⟨_, _, rfl, s172.pick [1, 2, 3, 4, 5, 6, 7, 8, 9] (by decide) (by walk_at "finL")⟩
                                  · intro σ' H' hP; obtain ⟨y__law_char_here, y__law_code, rfl, sI⟩ := hP
                                    refine s_ret vc ?_
                                    exact fin (kq _) (by walk_at "fin")
end
theorem all_mk {l : PySem.W.OpenLaw} {w : World} {K : PySem.W.Frag} {h : Heap} {mg : Str → Option Value} {fa : Addr} {od_is_code an_is_code : Option Addr} {sl_is_code : Array (Option Value)} {oc_is_code kV_is_code dc_is_code pm_is_code cd_is_code ct_is_code : Value} {a_is_code : Addr}
    {od_is_text an_is_text : Option Addr} {sl_is_text : Array (Option Value)} {oc_is_text kV_is_text dc_is_text pm_is_text cd_is_text ct_is_text : Value} {a_is_text : Addr}
    {od_octets_of an_octets_of : Option Addr} {sl_octets_of : Array (Option Value)} {oc_octets_of kV_octets_of dc_octets_of pm_octets_of cd_octets_of ct_octets_of : Value} {a_octets_of : Addr}
    {od_char_of an_char_of : Option Addr} {sl_char_of : Array (Option Value)} {oc_char_of kV_char_of dc_char_of pm_char_of cd_char_of ct_char_of : Value} {a_char_of : Addr}
    {od_text_of an_text_of : Option Addr} {sl_text_of : Array (Option Value)} {oc_text_of kV_text_of dc_text_of pm_text_of cd_text_of ct_text_of : Value} {a_text_of : Addr}
    {od__law_row an__law_row : Option Addr} {sl__law_row : Array (Option Value)} {oc__law_row kV__law_row dc__law_row pm__law_row cd__law_row ct__law_row : Value} {a__law_row : Addr}
    {od__law_char an__law_char : Option Addr} {sl__law_char : Array (Option Value)} {oc__law_char kV__law_char dc__law_char pm__law_char cd__law_char ct__law_char : Value} {a__law_char : Addr}
    {od__law_text an__law_text : Option Addr} {sl__law_text : Array (Option Value)} {oc__law_text kV__law_text dc__law_text pm__law_text cd__law_text ct__law_text : Value} {a__law_text : Addr}
    {od__law_good an__law_good : Option Addr} {sl__law_good : Array (Option Value)} {oc__law_good kV__law_good dc__law_good pm__law_good cd__law_good ct__law_good : Value} {a__law_good : Addr}
    {od_law an_law : Option Addr} {sl_law : Array (Option Value)} {oc_law kV_law dc_law pm_law cd_law ct_law : Value} {a_law : Addr}
    {t_HIGH : Tok}
    {t_LOW : Tok}
    {t_PERCENT : Tok} (X : K.In h) (G : h.Ns mainGlobals mg) (hfa : mg "law" = some (.ref fa))
    (k_HIGH : PySem.W.nsIn K mainGlobals "HIGH" = some (some (.str ("&'()*+,-./0123456789:;<=>?@ABCDEFGHIJKLMNOPQRSTUVWXYZ[\\]^_`abcdefghijklmnopqrstuvwxyz{|}~" : Str) t_HIGH)))
    (k_LOW : PySem.W.nsIn K mainGlobals "LOW" = some (some (.str (" !\"#$" : Str) t_LOW)))
    (k_PERCENT : PySem.W.nsIn K mainGlobals "PERCENT" = some (some (.int 37 t_PERCENT)))
    (z_all : PySem.W.nsIn K mainGlobals "all" = some none)
    (z_int : PySem.W.nsIn K mainGlobals "int" = some none)
    (z_isinstance : PySem.W.nsIn K mainGlobals "isinstance" = some none)
    (z_len : PySem.W.nsIn K mainGlobals "len" = some none)
    (z_list : PySem.W.nsIn K mainGlobals "list" = some none)
    (z_ord : PySem.W.nsIn K mainGlobals "ord" = some none)
    (z_range : PySem.W.nsIn K mainGlobals "range" = some none)
    (z_str : PySem.W.nsIn K mainGlobals "str" = some none)
    (z_tuple : PySem.W.nsIn K mainGlobals "tuple" = some none)
    (h1_is_code : PySem.W.nsIn K mainGlobals "is_code" = some (some (.ref a_is_code)))
    (h3_is_code : K.lookup a_is_code = some ⟨oc_is_code, od_is_code, .func (PySem.W.fnOf "is_code" "is_code" (defArgs st_is_code) (defBody st_is_code) (defScope st_is_code) .none kV_is_code dc_is_code pm_is_code an_is_code cd_is_code ct_is_code), sl_is_code⟩)
    (h4_is_code : PySem.W.codeIn K cd_is_code "is_code" = true)
    (h5_is_code : PySem.W.keepIn K (.ref a_is_code) = true)
    (h1_is_text : PySem.W.nsIn K mainGlobals "is_text" = some (some (.ref a_is_text)))
    (h3_is_text : K.lookup a_is_text = some ⟨oc_is_text, od_is_text, .func (PySem.W.fnOf "is_text" "is_text" (defArgs st_is_text) (defBody st_is_text) (defScope st_is_text) .none kV_is_text dc_is_text pm_is_text an_is_text cd_is_text ct_is_text), sl_is_text⟩)
    (h4_is_text : PySem.W.codeIn K cd_is_text "is_text" = true)
    (h5_is_text : PySem.W.keepIn K (.ref a_is_text) = true)
    (h1_octets_of : PySem.W.nsIn K mainGlobals "octets_of" = some (some (.ref a_octets_of)))
    (h3_octets_of : K.lookup a_octets_of = some ⟨oc_octets_of, od_octets_of, .func (PySem.W.fnOf "octets_of" "octets_of" (defArgs st_octets_of) (defBody st_octets_of) (defScope st_octets_of) .none kV_octets_of dc_octets_of pm_octets_of an_octets_of cd_octets_of ct_octets_of), sl_octets_of⟩)
    (h4_octets_of : PySem.W.codeIn K cd_octets_of "octets_of" = true)
    (h5_octets_of : PySem.W.keepIn K (.ref a_octets_of) = true)
    (h1_char_of : PySem.W.nsIn K mainGlobals "char_of" = some (some (.ref a_char_of)))
    (h3_char_of : K.lookup a_char_of = some ⟨oc_char_of, od_char_of, .func (PySem.W.fnOf "char_of" "char_of" (defArgs st_char_of) (defBody st_char_of) (defScope st_char_of) .none kV_char_of dc_char_of pm_char_of an_char_of cd_char_of ct_char_of), sl_char_of⟩)
    (h4_char_of : PySem.W.codeIn K cd_char_of "char_of" = true)
    (h5_char_of : PySem.W.keepIn K (.ref a_char_of) = true)
    (h1_text_of : PySem.W.nsIn K mainGlobals "text_of" = some (some (.ref a_text_of)))
    (h3_text_of : K.lookup a_text_of = some ⟨oc_text_of, od_text_of, .func (PySem.W.fnOf "text_of" "text_of" (defArgs st_text_of) (defBody st_text_of) (defScope st_text_of) .none kV_text_of dc_text_of pm_text_of an_text_of cd_text_of ct_text_of), sl_text_of⟩)
    (h4_text_of : PySem.W.codeIn K cd_text_of "text_of" = true)
    (h5_text_of : PySem.W.keepIn K (.ref a_text_of) = true)
    (h1__law_row : PySem.W.nsIn K mainGlobals "_law_row" = some (some (.ref a__law_row)))
    (h3__law_row : K.lookup a__law_row = some ⟨oc__law_row, od__law_row, .func (PySem.W.fnOf "_law_row" "_law_row" (defArgs st__law_row) (defBody st__law_row) (defScope st__law_row) .none kV__law_row dc__law_row pm__law_row an__law_row cd__law_row ct__law_row), sl__law_row⟩)
    (h4__law_row : PySem.W.codeIn K cd__law_row "_law_row" = true)
    (h5__law_row : PySem.W.keepIn K (.ref a__law_row) = true)
    (h1__law_char : PySem.W.nsIn K mainGlobals "_law_char" = some (some (.ref a__law_char)))
    (h3__law_char : K.lookup a__law_char = some ⟨oc__law_char, od__law_char, .func (PySem.W.fnOf "_law_char" "_law_char" (defArgs st__law_char) (defBody st__law_char) (defScope st__law_char) .none kV__law_char dc__law_char pm__law_char an__law_char cd__law_char ct__law_char), sl__law_char⟩)
    (h4__law_char : PySem.W.codeIn K cd__law_char "_law_char" = true)
    (h5__law_char : PySem.W.keepIn K (.ref a__law_char) = true)
    (h1__law_text : PySem.W.nsIn K mainGlobals "_law_text" = some (some (.ref a__law_text)))
    (h3__law_text : K.lookup a__law_text = some ⟨oc__law_text, od__law_text, .func (PySem.W.fnOf "_law_text" "_law_text" (defArgs st__law_text) (defBody st__law_text) (defScope st__law_text) .none kV__law_text dc__law_text pm__law_text an__law_text cd__law_text ct__law_text), sl__law_text⟩)
    (h4__law_text : PySem.W.codeIn K cd__law_text "_law_text" = true)
    (h5__law_text : PySem.W.keepIn K (.ref a__law_text) = true)
    (h1__law_good : PySem.W.nsIn K mainGlobals "_law_good" = some (some (.ref a__law_good)))
    (h3__law_good : K.lookup a__law_good = some ⟨oc__law_good, od__law_good, .func (PySem.W.fnOf "_law_good" "_law_good" (defArgs st__law_good) (defBody st__law_good) (defScope st__law_good) .none kV__law_good dc__law_good pm__law_good an__law_good cd__law_good ct__law_good), sl__law_good⟩)
    (h4__law_good : PySem.W.codeIn K cd__law_good "_law_good" = true)
    (h5__law_good : PySem.W.keepIn K (.ref a__law_good) = true)
    (h1_law : PySem.W.nsIn K mainGlobals "law" = some (some (.ref a_law)))
    (h3_law : K.lookup a_law = some ⟨oc_law, od_law, .func (PySem.W.fnOf "law" "law" (defArgs st_law) (defBody st_law) (defScope st_law) .none kV_law dc_law pm_law an_law cd_law ct_law), sl_law⟩)
    (h4_law : PySem.W.codeIn K cd_law "law" = true)
    (h5_law : PySem.W.keepIn K (.ref a_law) = true)
    : ∃ fd : FuncData, (∀ (s : Shared) (v : Value), BindsTo s fd ⟨[v], []⟩ [("_law_script", v)]) ∧ ∀ base : Heap, K.In base → base.Ns mainGlobals mg → FnOk l.prog w K mg base CX0 3 fa fd ["_law_script"] (sp_law0 K) := by
  have e := hfa.symm.trans (PySem.W.mg_of X G h1_law)
  cases e
  let A : Ads := ⟨a_is_code, PySem.W.fnOf "is_code" "is_code" (defArgs st_is_code) (defBody st_is_code) (defScope st_is_code) .none kV_is_code dc_is_code pm_is_code an_is_code cd_is_code ct_is_code, a_is_text, PySem.W.fnOf "is_text" "is_text" (defArgs st_is_text) (defBody st_is_text) (defScope st_is_text) .none kV_is_text dc_is_text pm_is_text an_is_text cd_is_text ct_is_text, a_octets_of, PySem.W.fnOf "octets_of" "octets_of" (defArgs st_octets_of) (defBody st_octets_of) (defScope st_octets_of) .none kV_octets_of dc_octets_of pm_octets_of an_octets_of cd_octets_of ct_octets_of, a_char_of, PySem.W.fnOf "char_of" "char_of" (defArgs st_char_of) (defBody st_char_of) (defScope st_char_of) .none kV_char_of dc_char_of pm_char_of an_char_of cd_char_of ct_char_of, a_text_of, PySem.W.fnOf "text_of" "text_of" (defArgs st_text_of) (defBody st_text_of) (defScope st_text_of) .none kV_text_of dc_text_of pm_text_of an_text_of cd_text_of ct_text_of, a__law_row, PySem.W.fnOf "_law_row" "_law_row" (defArgs st__law_row) (defBody st__law_row) (defScope st__law_row) .none kV__law_row dc__law_row pm__law_row an__law_row cd__law_row ct__law_row, a__law_char, PySem.W.fnOf "_law_char" "_law_char" (defArgs st__law_char) (defBody st__law_char) (defScope st__law_char) .none kV__law_char dc__law_char pm__law_char an__law_char cd__law_char ct__law_char, a__law_text, PySem.W.fnOf "_law_text" "_law_text" (defArgs st__law_text) (defBody st__law_text) (defScope st__law_text) .none kV__law_text dc__law_text pm__law_text an__law_text cd__law_text ct__law_text, a__law_good, PySem.W.fnOf "_law_good" "_law_good" (defArgs st__law_good) (defBody st__law_good) (defScope st__law_good) .none kV__law_good dc__law_good pm__law_good an__law_good cd__law_good ct__law_good, fa, PySem.W.fnOf "law" "law" (defArgs st_law) (defBody st_law) (defScope st_law) .none kV_law dc_law pm_law an_law cd_law ct_law, t_HIGH, t_LOW, t_PERCENT⟩
  have T : Txt K mg A := ⟨fun_mk (st := st_is_code) h3_is_code h4_is_code h5_is_code,
    (fun_mk (st := st_is_code) h3_is_code h4_is_code h5_is_code).binds (ps := ["code"]) fun _ _ _ _ _ _ us hl => match us, hl with | [_], _ => rfl,
    PySem.W.mg_of X G h1_is_code,
    fun_mk (st := st_is_text) h3_is_text h4_is_text h5_is_text,
    (fun_mk (st := st_is_text) h3_is_text h4_is_text h5_is_text).binds (ps := ["text"]) fun _ _ _ _ _ _ us hl => match us, hl with | [_], _ => rfl,
    PySem.W.mg_of X G h1_is_text,
    fun_mk (st := st_octets_of) h3_octets_of h4_octets_of h5_octets_of,
    (fun_mk (st := st_octets_of) h3_octets_of h4_octets_of h5_octets_of).binds (ps := ["text"]) fun _ _ _ _ _ _ us hl => match us, hl with | [_], _ => rfl,
    PySem.W.mg_of X G h1_octets_of,
    fun_mk (st := st_char_of) h3_char_of h4_char_of h5_char_of,
    (fun_mk (st := st_char_of) h3_char_of h4_char_of h5_char_of).binds (ps := ["code"]) fun _ _ _ _ _ _ us hl => match us, hl with | [_], _ => rfl,
    PySem.W.mg_of X G h1_char_of,
    fun_mk (st := st_text_of) h3_text_of h4_text_of h5_text_of,
    (fun_mk (st := st_text_of) h3_text_of h4_text_of h5_text_of).binds (ps := ["octets"]) fun _ _ _ _ _ _ us hl => match us, hl with | [_], _ => rfl,
    PySem.W.mg_of X G h1_text_of,
    fun_mk (st := st__law_row) h3__law_row h4__law_row h5__law_row,
    (fun_mk (st := st__law_row) h3__law_row h4__law_row h5__law_row).binds (ps := ["_law_script", "_law_k"]) fun _ _ _ _ _ _ us hl => match us, hl with | [_, _], _ => rfl,
    PySem.W.mg_of X G h1__law_row,
    fun_mk (st := st__law_char) h3__law_char h4__law_char h5__law_char,
    (fun_mk (st := st__law_char) h3__law_char h4__law_char h5__law_char).binds (ps := ["_law_number"]) fun _ _ _ _ _ _ us hl => match us, hl with | [_], _ => rfl,
    PySem.W.mg_of X G h1__law_char,
    fun_mk (st := st__law_text) h3__law_text h4__law_text h5__law_text,
    (fun_mk (st := st__law_text) h3__law_text h4__law_text h5__law_text).binds (ps := ["_law_number", "_law_count"]) fun _ _ _ _ _ _ us hl => match us, hl with | [_, _], _ => rfl,
    PySem.W.mg_of X G h1__law_text,
    fun_mk (st := st__law_good) h3__law_good h4__law_good h5__law_good,
    (fun_mk (st := st__law_good) h3__law_good h4__law_good h5__law_good).binds (ps := ["_law_code"]) fun _ _ _ _ _ _ us hl => match us, hl with | [_], _ => rfl,
    PySem.W.mg_of X G h1__law_good,
    fun_mk (st := st_law) h3_law h4_law h5_law,
    (fun_mk (st := st_law) h3_law h4_law h5_law).binds (ps := ["_law_script"]) fun _ _ _ _ _ _ us hl => match us, hl with | [_], _ => rfl,
    PySem.W.mg_of X G h1_law,
    PySem.W.mg_of X G k_HIGH,
    PySem.W.mg_of X G k_LOW,
    PySem.W.mg_of X G k_PERCENT,
    PySem.W.mg_none_of X G z_all,
    PySem.W.mg_none_of X G z_int,
    PySem.W.mg_none_of X G z_isinstance,
    PySem.W.mg_none_of X G z_len,
    PySem.W.mg_none_of X G z_list,
    PySem.W.mg_none_of X G z_ord,
    PySem.W.mg_none_of X G z_range,
    PySem.W.mg_none_of X G z_str,
    PySem.W.mg_none_of X G z_tuple⟩
  exact ⟨PySem.W.fnOf "law" "law" (defArgs st_law) (defBody st_law) (defScope st_law) .none kV_law dc_law pm_law an_law cd_law ct_law, fun s v => .of_eq rfl, fun base _ _ => ok_law T⟩
end X
open PySem PySem.W PyProof.Rows
set_option maxHeartbeats 0 in
theorem PySem.Challenge.cw_segmentfs_k46_texts_as_octets_holds : PySem.Challenge.rw_segmentfs_k46_texts_as_octets.Holds := by
  w_on; o_law; k_head; (case hw => w_witness2)
  k_fill
  refine L2.walk_of (l := PySem.Challenge.rw_segmentfs_k46_texts_as_octets) (n := 63) (k := 3) (x := "_law_script") (CX := fun _ => L2.CX0) (sp := fun w => X.sp_law0 _) rfl (by decide) rfl ⟨rfl, by decide, by decide⟩ (fun w h Y => PySem.W.kIn_of Y) ?F (fun _ _ a ns hl _ hS => ⟨a, ns, rfl, hS, hl, fun _ => rfl⟩) (fun _ _ _ _ _ h => h)
  case F =>
    intro w mg fa h KX G hmg
    refine' X.all_mk KX G hmg ?k_HIGH ?k_LOW ?k_PERCENT ?z_all ?z_int ?z_isinstance ?z_len ?z_list ?z_ord ?z_range ?z_str ?z_tuple ?h1_is_code ?h3_is_code ?h4_is_code ?h5_is_code ?h1_is_text ?h3_is_text ?h4_is_text ?h5_is_text ?h1_octets_of ?h3_octets_of ?h4_octets_of ?h5_octets_of ?h1_char_of ?h3_char_of ?h4_char_of ?h5_char_of ?h1_text_of ?h3_text_of ?h4_text_of ?h5_text_of ?h1__law_row ?h3__law_row ?h4__law_row ?h5__law_row ?h1__law_char ?h3__law_char ?h4__law_char ?h5__law_char ?h1__law_text ?h3__law_text ?h4__law_text ?h5__law_text ?h1__law_good ?h3__law_good ?h4__law_good ?h5__law_good ?h1_law ?h3_law ?h4_law ?h5_law
    (case k_HIGH => k_is)
    (case k_LOW => k_is)
    (case k_PERCENT => k_is)
    (case z_all => k_is)
    (case z_int => k_is)
    (case z_isinstance => k_is)
    (case z_len => k_is)
    (case z_list => k_is)
    (case z_ord => k_is)
    (case z_range => k_is)
    (case z_str => k_is)
    (case z_tuple => k_is)
    (case h1_is_code => k_is)
    (case h3_is_code => k_is)
    (case h4_is_code => k_is)
    (case h5_is_code => k_is)
    (case h1_is_text => k_is)
    (case h3_is_text => k_is)
    (case h4_is_text => k_is)
    (case h5_is_text => k_is)
    (case h1_octets_of => k_is)
    (case h3_octets_of => k_is)
    (case h4_octets_of => k_is)
    (case h5_octets_of => k_is)
    (case h1_char_of => k_is)
    (case h3_char_of => k_is)
    (case h4_char_of => k_is)
    (case h5_char_of => k_is)
    (case h1_text_of => k_is)
    (case h3_text_of => k_is)
    (case h4_text_of => k_is)
    (case h5_text_of => k_is)
    (case h1__law_row => k_is)
    (case h3__law_row => k_is)
    (case h4__law_row => k_is)
    (case h5__law_row => k_is)
    (case h1__law_char => k_is)
    (case h3__law_char => k_is)
    (case h4__law_char => k_is)
    (case h5__law_char => k_is)
    (case h1__law_text => k_is)
    (case h3__law_text => k_is)
    (case h4__law_text => k_is)
    (case h5__law_text => k_is)
    (case h1__law_good => k_is)
    (case h3__law_good => k_is)
    (case h4__law_good => k_is)
    (case h5__law_good => k_is)
    (case h1_law => k_is)
    (case h3_law => k_is)
    (case h4_law => k_is)
    (case h5_law => k_is)
