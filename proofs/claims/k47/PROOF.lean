import PyProof.Rows.All
import Wide.All
import OpenK.AllK
import Wide.FinOn
import HandS.ForMost
import HandS.NoneIn
import HandS.IsInst
import HandS.Wide
import HandS.Style
import HandS.SortInts
import HandS.Conv
import HandS.Walk
import HandS.More
import HandS.Rev
import HandS.RevTup
import HandS.MakeKw
import HandS.Property
import HandS.TryOnly
import HandS.ExcIs
import HandS.ExcOwn
import HandS.TupMul
import HandS.TupAny
import HandS.AnyAll
import HandS.Defaults
import HandS.Dict
import HandS.EndOwn
import PySem.Challenge.RW_segmentfs_k47_inodes_as_octets
set_option Elab.async false
set_option linter.all false
set_option maxRecDepth 100000
set_option maxHeartbeats 4000000
/-! ### prelude: the state of a walk (Hs), values (Val), tests (Ans), statements -/
namespace G
open PySem PySem.Spec PyProof.Rows L2
/-- all of B but F stands as it stood; the cells L are the walk's own (new since B, or of F) -/
structure Hs (F : List Addr) (B : Hp) (L : List (Addr × HO)) (H : Hp) : Prop where
  fr : ∀ a o, B a = some o → a ∉ F → H a = some o
  al : ∀ a, H a = none → B a = none
  own : ∀ p ∈ L, H p.1 = some p.2
  fs : ∀ p ∈ L, p.1 ∈ F ∨ B p.1 = none
  nd : (L.map (·.1)).Nodup
section
variable {F : List Addr} {B H H' : Hp} {L L' : List (Addr × HO)} {p : Addr} {o o' : HO}
theorem Hs.start (H : Hp) : Hs [] H [] H := ⟨fun _ _ h _ => h, fun _ h => h, fun _ h => (List.not_mem_nil h).elim, fun _ h => (List.not_mem_nil h).elim, List.nodup_nil⟩
theorem Hs.startF (hL : ∀ q ∈ L, H q.1 = some q.2 ∧ q.1 ∈ F) (nd : (L.map (·.1)).Nodup) : Hs F H L H :=
  ⟨fun _ _ h _ => h, fun _ h => h, fun q h => (hL q h).1, fun q h => .inl (hL q h).2, nd⟩
theorem Hs.mem (s : Hs F B L H) (i : Nat) (h : L[i]? = some (p, o)) : H p = some o := s.own (p, o) (List.mem_of_getElem? h)
theorem Hs.frs (s : Hs F B L H) (i : Nat) (h : L[i]? = some (p, o)) (hf : p ∉ F) : B p = none := (s.fs (p, o) (List.mem_of_getElem? h)).resolve_left hf
theorem Hs.new (s : Hs F B L H) (np : H p = none) (o : HO) : Hs F B ((p, o) :: L) (upd H p o) := by
  have ne : ∀ a u, H a = some u → a ≠ p := fun a u e z => by rw [z, np] at e; cases e
  refine ⟨fun a u e hf => ?_, fun a e => ?_, fun q hq => ?_, fun q hq => ?_, ?_⟩
  · have h := s.fr a u e hf
    rw [upd_ne (ne a u h)]; exact h
  · by_cases z : a = p
    · rw [z, upd_same] at e; cases e
    · rw [upd_ne z] at e; exact s.al a e
  · rcases List.mem_cons.mp hq with e | hq
    · rw [e]; exact upd_same
    · have h := s.own q hq
      rw [upd_ne (ne _ _ h)]; exact h
  · rcases List.mem_cons.mp hq with e | hq
    · rw [e]; exact .inr (s.al p np)
    · exact s.fs q hq
  · rw [List.map_cons, List.nodup_cons]
    refine ⟨fun hm => ?_, s.nd⟩
    obtain ⟨q, hq, e⟩ := List.mem_map.mp hm
    exact ne _ _ (s.own q hq) e
theorem map_set_fst (L : List (Addr × HO)) (i : Nat) (h : L[i]? = some (p, o)) (o' : HO) : (L.set i (p, o')).map (·.1) = L.map (·.1) := by
  refine List.ext_getElem? fun j => ?_
  rw [List.getElem?_map, List.getElem?_map]
  by_cases e : i = j
  · subst e
    rw [List.getElem?_set_self (List.getElem?_eq_some_iff.mp h).1, h]
    rfl
  · rw [List.getElem?_set_ne e]
theorem nodup_at {α : Type} {l : List α} (hN : l.Nodup) {i j : Nat} {x : α} (a : l[i]? = some x) (b : l[j]? = some x) : i = j := by
  have ha := (List.getElem?_eq_some_iff.mp a)
  have hb := (List.getElem?_eq_some_iff.mp b)
  exact (List.getElem_inj hN).mp (ha.2.trans hb.2.symm)
theorem Hs.wr (s : Hs F B L H) (i : Nat) (o' : HO) (h : L[i]? = some (p, o)) : Hs F B (L.set i (p, o')) (upd H p o') := by
  have hp := s.mem i h
  refine ⟨fun a u e hf => ?_, fun a e => ?_, fun q hq => ?_, fun q hq => ?_, ?_⟩
  · have z : a ≠ p := fun z => by
      rw [z] at e hf
      rcases s.fs (p, o) (List.mem_of_getElem? h) with y | y
      · exact hf y
      · rw [show (p, o).1 = p from rfl, e] at y; cases y
    rw [upd_ne z]; exact s.fr a u e hf
  · by_cases z : a = p
    · rw [z, upd_same] at e; cases e
    · rw [upd_ne z] at e; exact s.al a e
  · obtain ⟨j, hj⟩ := List.mem_iff_getElem?.mp hq
    by_cases e : i = j
    · subst e
      rw [List.getElem?_set_self (List.getElem?_eq_some_iff.mp h).1] at hj
      cases hj; exact upd_same
    · rw [List.getElem?_set_ne e] at hj
      have z : q.1 ≠ p := fun z => e (nodup_at s.nd (by rw [List.getElem?_map, h]; rfl) (by rw [List.getElem?_map, hj, ← z]; rfl))
      rw [upd_ne z]; exact s.own q (List.mem_of_getElem? hj)
  · have hm : q.1 ∈ (L.set i (p, o')).map (·.1) := List.mem_map.mpr ⟨q, hq, rfl⟩
    rw [map_set_fst L i h] at hm
    obtain ⟨r, hr, e⟩ := List.mem_map.mp hm
    rw [← e]; exact s.fs r hr
  · rw [map_set_fst L i h]; exact s.nd
theorem Hs.ext (s : Hs F B L H) (e : Same H H') : Hs F B L H' :=
  ⟨fun a o h hf => e a o (s.fr a o h hf), fun a h => s.al a (e.free h), fun q hq => e _ _ (s.own q hq), s.fs, s.nd⟩
theorem Hs.cg (e : L' = L) (s : Hs F B L H) : Hs F B L' H := e ▸ s
theorem Hs.top (s : Hs F B ((p, o) :: L) H) (e : o = o') : Hs F B ((p, o') :: L) H := e ▸ s
theorem Hs.ret (s : Hs F B L H) (e : Same H H') (np : H p = none) (hp : H' p = some o) : Hs F B ((p, o) :: L) H' := by
  refine ⟨fun a o h hf => e a o (s.fr a o h hf), fun a h => s.al a (e.free h), fun q hq => ?_, fun q hq => ?_, ?_⟩
  · rcases List.mem_cons.mp hq with z | hq
    · rw [z]; exact hp
    · exact e _ _ (s.own q hq)
  · rcases List.mem_cons.mp hq with z | hq
    · rw [z]; exact .inr (s.al p np)
    · exact s.fs q hq
  · rw [List.map_cons, List.nodup_cons]
    refine ⟨fun hm => ?_, s.nd⟩
    obtain ⟨q, hq, z⟩ := List.mem_map.mp hm
    have h := s.own q hq
    rw [show q.1 = p from z, np] at h; cases h
theorem Hs.pick (s : Hs F B L H) (is : List Nat) (hn : is.Nodup) (h : is.map (fun i => L[i]?) = L'.map some) : Hs F B L' H := by
  have mem : ∀ q ∈ L', q ∈ L := fun q hq => by
    have : some q ∈ is.map (fun i => L[i]?) := by rw [h]; exact List.mem_map.mpr ⟨q, hq, rfl⟩
    obtain ⟨i, _, e⟩ := List.mem_map.mp this
    exact List.mem_of_getElem? e
  refine ⟨s.fr, s.al, fun q hq => s.own q (mem q hq), fun q hq => s.fs q (mem q hq), ?_⟩
  rw [List.nodup_iff_pairwise_ne, List.pairwise_iff_getElem]
  intro i j hi hj hij e
  rw [List.length_map] at hi hj
  have hl : is.length = L'.length := by have := congrArg List.length h; simpa using this
  have gi : ∀ k (hk : k < L'.length), L[is[k]'(by omega)]? = some L'[k] := fun k hk => by
    have := congrArg (fun l => l[k]?) h
    simp only [List.getElem?_map] at this
    rw [List.getElem?_eq_getElem (show k < is.length by omega), List.getElem?_eq_getElem hk] at this
    exact Option.some.inj this
  rw [List.getElem_map, List.getElem_map] at e
  have e2 : is[i]'(by omega) = is[j]'(by omega) := nodup_at s.nd (by rw [List.getElem?_map, gi i hi]; rfl) (by rw [List.getElem?_map, gi j hj]; exact congrArg some e.symm)
  have := (List.getElem_inj hn).mp e2
  omega
/-- behind a call that keeps all but G's cells; N: what it made or changed; rest: the cells that it left alone -/
theorem Hs.call {G : List Addr} {N R : List (Addr × HO)} (s : Hs F B L H) (r : Hs G H N H') (is : List Nat) (hG : ∀ a ∈ G, a ∈ L.map (·.1)) (hn : is.Nodup) (h : is.map (fun i => L[i]?) = R.map some) (hR : ∀ q ∈ R, q.1 ∉ G) : Hs F B (N ++ R) H' := by
  have sR := s.pick is hn h
  have gL : ∀ a ∈ G, a ∈ F ∨ B a = none := fun a ha => by
    obtain ⟨q, hq, e⟩ := List.mem_map.mp (hG a ha)
    rw [← e]; exact s.fs q hq
  refine ⟨fun a o e hf => ?_, fun a e => s.al a (r.al a e), fun q hq => ?_, fun q hq => ?_, ?_⟩
  · refine r.fr a o (s.fr a o e hf) fun ha => ?_
    rcases gL a ha with z | z
    · exact hf z
    · rw [e] at z; cases z
  · rcases List.mem_append.mp hq with z | z
    · exact r.own q z
    · exact r.fr _ _ (sR.own q z) (hR q z)
  · rcases List.mem_append.mp hq with z | z
    · rcases r.fs q z with y | y
      · exact gL _ y
      · exact .inr (s.al _ y)
    · exact sR.fs q z
  · rw [List.map_append, List.nodup_append]
    refine ⟨r.nd, sR.nd, fun a ha b hb e => ?_⟩
    obtain ⟨q, hq, e1⟩ := List.mem_map.mp ha
    obtain ⟨q2, hq2, e2⟩ := List.mem_map.mp hb
    have e3 : q.1 = q2.1 := by rw [show q.1 = a from e1, show q2.1 = b from e2, e]
    rcases r.fs q hq with y | y
    · exact hR q2 hq2 (e3 ▸ y)
    · have := sR.own q2 hq2
      rw [← e3, y] at this; cases this
theorem Hs.call0 {N : List (Addr × HO)} (s : Hs F B L H) (r : Hs [] H N H') : Hs F B (N ++ L) H' := by
  have e : (List.range L.length).map (fun i => L[i]?) = L.map some := by
    refine List.ext_getElem? fun j => ?_
    rw [List.getElem?_map, List.getElem?_map]
    by_cases h : j < L.length
    · rw [List.getElem?_range h, List.getElem?_eq_getElem h]
      show some L[j]? = some (some L[j])
      rw [List.getElem?_eq_getElem h]
    · rw [List.getElem?_eq_none (by rw [List.length_range]; omega), List.getElem?_eq_none (by omega)]; rfl
  exact s.call r (List.range L.length) (fun _ h => (List.not_mem_nil h).elim) List.nodup_range e fun _ _ => List.not_mem_nil
theorem Hs.ne {q : Addr} (s : Hs F B L H) (i j : Nat) (hi : L[i]? = some (p, o)) (hj : L[j]? = some (q, o')) (h : i ≠ j) : p ≠ q := fun e =>
  h (nodup_at s.nd (by rw [List.getElem?_map, hi]; rfl) (by rw [List.getElem?_map, hj, e]; rfl))
theorem Hs.same (s : Hs [] B L H) : Same B H := fun a o h => s.fr a o h (List.not_mem_nil)
theorem Hs.sq {K : PySem.W.Frag} {a : Addr} {xs : List V} (s : Hs [] B L H) (h : SqL K B a xs) : SqL K H a xs := s.same.seq h
theorem Hs.sqt {K : PySem.W.Frag} {a : Addr} {xs : List V} (s : Hs [] B L H) (h : SqT K B a xs) : SqT K H a xs := by
  rcases h with h | h
  · rcases h with h | ⟨o, h⟩
    · exact .inl (.inl (s.same a _ h))
    · exact .inl (.inr ⟨o, s.same a _ h⟩)
  · exact .inr h
theorem Hs.l {K : PySem.W.Frag} {xs : List V} (s : Hs F B L H) (i : Nat) (h : L[i]? = some (p, .lst xs)) : SqL K H p xs := SqL.of (s.mem i h)
theorem Hs.t {K : PySem.W.Frag} {xs : List V} (s : Hs F B L H) (i : Nat) (h : L[i]? = some (p, .tup xs)) : SqT K H p xs := SqT.of (s.mem i h)
end
/-! ### ints of a list by an index -/
def gi (ns : List Int) (i : Int) : Int := ns.getD i.toNat 0
theorem at_gi {ns : List Int} {i : Int} (h0 : 0 ≤ i) (h1 : i < (ns.length : Int)) : atI (ns.map V.int) i = some (V.int (gi ns i)) := by
  obtain ⟨n, rfl⟩ := Int.eq_ofNat_of_zero_le h0
  refine atI_nat ?_
  have hn : n < ns.length := by omega
  rw [List.getElem?_map, List.getElem?_eq_getElem hn]
  show some (V.int ns[n]) = some (V.int (ns.getD n 0))
  rw [List.getD_eq_getElem?_getD, List.getElem?_eq_getElem hn]; rfl
theorem gi_mem {ns : List Int} {i : Int} (h0 : 0 ≤ i) (h1 : i < (ns.length : Int)) : gi ns i ∈ ns := by
  obtain ⟨n, rfl⟩ := Int.eq_ofNat_of_zero_le h0
  have hn : n < ns.length := by omega
  show ns.getD n 0 ∈ ns
  rw [List.getD_eq_getElem?_getD, List.getElem?_eq_getElem hn]
  exact List.getElem_mem hn
/-! ### values and tests -/
def Val (te : TE) (σ : L2.St) (H : Hp) (v : V) : Prop := ∀ Q : VK, Q v H → te σ H Q
def VA (ta : TA) (σ : L2.St) (H : Hp) (vs : List V) : Prop := ∀ Q : List V → Hp → Prop, Q vs H → ta σ H Q
def Ans (t : TT) (σ : L2.St) (H : Hp) (p : Prop) [Decidable p] : Prop := ∀ Q : Bool → Hp → Prop, Q (decide p) H → t σ H Q
section
variable {K : PySem.W.Frag} {σ σ' : L2.St} {H : Hp} {ta tb te tc : TE} {t u : TT} {x y z v w : V} {r : R2} {i j : Int}
theorem vv (n : Nat) (h : σ[n]? = some (some v)) : Val (tVar n) σ H v := fun _ q => ⟨v, h, q⟩
theorem vc : Val (tC v) σ H v := fun _ q => q
theorem vis (h : Val te σ H v) (e : v = w) : Val te σ H w := e ▸ h
theorem v0 {g : Int → Int → V} (ha : Val ta σ H (.int i)) (hb : Val tb σ H (.int j)) : Val (tOp (rI0 g) ta tb) σ H (g i j) := fun Q q => ha _ (hb _ ⟨i, j, rfl, rfl, q⟩)
theorem v1 {C : Int → Int → Prop} {g : Int → Int → V} (hc : C i j) (ha : Val ta σ H (.int i)) (hb : Val tb σ H (.int j)) : Val (tOp (rI C g) ta tb) σ H (g i j) := fun Q q => ha _ (hb _ ⟨i, j, rfl, rfl, hc, q⟩)
theorem vun {g : Int → V} (ha : Val ta σ H (.int i)) : Val (tUn (rU g) ta) σ H (g i) := fun Q q => ha _ ⟨i, rfl, q⟩
abbrev rInt1 : List V → Hp → VK → Prop := fun xs H Q => (∃ i, xs = [.int i] ∧ Q (.int i) H) ∨ ∃ k, xs = [.bl k] ∧ Q (.int (if k then 1 else 0)) H
theorem vint (ha : Val ta σ H (.int i)) : Val (tCB rInt1 (tCons ta tNil)) σ H (.int i) := fun Q q => ha _ (.inl ⟨i, rfl, q⟩)
theorem vintb {b : Bool} (ha : Val ta σ H (.bl b)) : Val (tCB rInt1 (tCons ta tNil)) σ H (.int (if b then 1 else 0)) := fun Q q => ha _ (.inr ⟨b, rfl, q⟩)
theorem vixL {p : Addr} {xs : List V} (ha : Val ta σ H (.ref p)) (hb : Val tb σ H (.int i)) (hs : SqL K H p xs) (h : atI xs i = some v) : Val (tOp (rIxL K) ta tb) σ H v := fun Q q => ha _ (hb _ ⟨p, xs, i, v, rfl, rfl, hs, h, q⟩)
theorem vixT {p : Addr} {xs : List V} (ha : Val ta σ H (.ref p)) (hb : Val tb σ H (.int i)) (hs : SqT K H p xs) (h : atI xs i = some v) : Val (tOp (rIxT K) ta tb) σ H v := fun Q q => ha _ (hb _ ⟨p, xs, i, v, rfl, rfl, hs, h, q⟩)
abbrev rLenS (K : PySem.W.Frag) : List V → Hp → VK → Prop := fun xs H Q => ∃ p ys, xs = [.ref p] ∧ (SqL K H p ys ∨ SqT K H p ys) ∧ Q (.int ys.length) H
theorem vlenL {p : Addr} {xs : List V} (ha : Val ta σ H (.ref p)) (hs : SqL K H p xs) : Val (tCB (rLenS K) (tCons ta tNil)) σ H (.int xs.length) := fun Q q => ha _ ⟨p, xs, rfl, .inl hs, q⟩
theorem vlenT {p : Addr} {xs : List V} (ha : Val ta σ H (.ref p)) (hs : SqT K H p xs) : Val (tCB (rLenS K) (tCons ta tNil)) σ H (.int xs.length) := fun Q q => ha _ ⟨p, xs, rfl, .inr hs, q⟩
theorem vfld {a C dx : Addr} {fs : List (Str × V)} {f : Str} (h : Val ta σ H (.ref a)) (ho : H a = some (.ins C dx fs)) (hc : Cls K C) (hn : NoAttr K C f) (hl : fs.lookup f = some v) : Val (tFld K ta f) σ H v := fun Q q => h _ ⟨a, C, dx, fs, v, rfl, ho, hc, hn, hl, q⟩
theorem vif {p : Prop} [Decidable p] (h : Ans t σ H p) (h1 : p → Val ta σ H v) (h2 : ¬ p → Val tb σ H v) : Val (tIf t ta tb) σ H v := fun Q q => h _ (by
  by_cases hp : p
  · rw [decide_eq_true hp]; exact h1 hp Q q
  · rw [decide_eq_false hp]; exact h2 hp Q q)
theorem vtest {p : Prop} [Decidable p] (h : Val te σ H (.bl (decide p))) : Ans (tTest te) σ H p := fun Q q => h _ ⟨_, rfl, q⟩
theorem vB {p : Prop} [Decidable p] (h : Val te σ H (.bl (decide p))) : Ans (tB te) σ H p := fun Q q => h _ ⟨_, rfl, q⟩
theorem vbool {b : Bool} (h : Val te σ H (.bl b)) : Val te σ H (.bl (decide (b = true))) := by
  rw [show decide (b = true) = b from by cases b <;> rfl]; exact h
theorem dec_eq_V {α : Type} [DecidableEq α] (f : α → V) (hf : ∀ a b, f a = f b → a = b) (a b : α) : decide (f a = f b) = decide (a = b) := by
  by_cases h : a = b
  · rw [decide_eq_true h, decide_eq_true (congrArg f h)]
  · rw [decide_eq_false h, decide_eq_false (fun e => h (hf _ _ e))]
theorem dec_not (p : Prop) [Decidable p] : (!decide p) = decide (¬ p) := by
  by_cases h : p
  · rw [decide_eq_true h, decide_eq_false (not_not_intro h)]; rfl
  · rw [decide_eq_false h, decide_eq_true h]; rfl
theorem veq (ha : Val ta σ H (.int i)) (hb : Val tb σ H (.int j)) : Val (tOp rEq ta tb) σ H (.bl (decide (i = j))) := fun Q q => ha _ (hb _ ⟨rfl, by rw [dec_eq_V V.int (fun _ _ e => V.int.inj e)]; exact q⟩)
theorem vne (ha : Val ta σ H (.int i)) (hb : Val tb σ H (.int j)) : Val (tOp rNe ta tb) σ H (.bl (decide (i ≠ j))) := fun Q q => ha _ (hb _ ⟨rfl, by rw [dec_eq_V V.int (fun _ _ e => V.int.inj e), dec_not]; exact q⟩)
theorem veqb {a b : Bool} (ha : Val ta σ H (.bl a)) (hb : Val tb σ H (.bl b)) : Val (tOp rEq ta tb) σ H (.bl (decide (a = b))) := fun Q q => ha _ (hb _ ⟨rfl, by rw [dec_eq_V V.bl (fun _ _ e => V.bl.inj e)]; exact q⟩)
theorem vneb {a b : Bool} (ha : Val ta σ H (.bl a)) (hb : Val tb σ H (.bl b)) : Val (tOp rNe ta tb) σ H (.bl (decide (a ≠ b))) := fun Q q => ha _ (hb _ ⟨rfl, by rw [dec_eq_V V.bl (fun _ _ e => V.bl.inj e), dec_not]; exact q⟩)
theorem veqs {a b : Str} (ha : Val ta σ H (.str a)) (hb : Val tb σ H (.str b)) : Val (tOp rEq ta tb) σ H (.bl (decide (a = b))) := fun Q q => ha _ (hb _ ⟨rfl, by rw [dec_eq_V V.str (fun _ _ e => V.str.inj e)]; exact q⟩)
theorem vnes {a b : Str} (ha : Val ta σ H (.str a)) (hb : Val tb σ H (.str b)) : Val (tOp rNe ta tb) σ H (.bl (decide (a ≠ b))) := fun Q q => ha _ (hb _ ⟨rfl, by rw [dec_eq_V V.str (fun _ _ e => V.str.inj e), dec_not]; exact q⟩)
theorem veqv (hs : scal x y = true) (ha : Val ta σ H x) (hb : Val tb σ H y) : Val (tOp rEq ta tb) σ H (.bl (decide (x = y))) := fun Q q => ha _ (hb _ ⟨hs, q⟩)
theorem vnev (hs : scal x y = true) (ha : Val ta σ H x) (hb : Val tb σ H y) : Val (tOp rNe ta tb) σ H (.bl (decide (x ≠ y))) := fun Q q => ha _ (hb _ ⟨hs, by rw [dec_not]; exact q⟩)
abbrev rIsN : R2 := fun x y H Q => y = .non ∧ Q (.bl (decide (x = .non))) H
abbrev rNotN : R2 := fun x y H Q => y = .non ∧ Q (.bl (!decide (x = .non))) H
theorem visN (ha : Val ta σ H x) : Val (tOp rIsN ta (tC .non)) σ H (.bl (decide (x = .non))) := fun Q q => ha _ ⟨rfl, q⟩
theorem vnotN (ha : Val ta σ H x) : Val (tOp rNotN ta (tC .non)) σ H (.bl (decide (x ≠ .non))) := fun Q q => ha _ ⟨rfl, by rw [dec_not]; exact q⟩
theorem aand {p q : Prop} [Decidable p] [Decidable q] (h1 : Ans t σ H p) (h2 : p → Ans u σ H q) : Ans (tAnd t u) σ H (p ∧ q) := fun Q k => h1 _ (by
  by_cases hp : p
  · rw [decide_eq_true hp]
    refine h2 hp Q ?_
    rw [show decide q = decide (p ∧ q) from by simp [hp]]; exact k
  · rw [decide_eq_false hp]
    rw [show decide (p ∧ q) = false from by simp [hp]] at k; exact k)
theorem aor {p q : Prop} [Decidable p] [Decidable q] (h1 : Ans t σ H p) (h2 : ¬ p → Ans u σ H q) : Ans (tOr t u) σ H (p ∨ q) := fun Q k => h1 _ (by
  by_cases hp : p
  · rw [decide_eq_true hp]
    rw [show decide (p ∨ q) = true from by simp [hp]] at k; exact k
  · rw [decide_eq_false hp]
    refine h2 hp Q ?_
    rw [show decide q = decide (p ∨ q) from by simp [hp]]; exact k)
theorem anot {p : Prop} [Decidable p] (h : Ans t σ H p) : Ans (tNot t) σ H (¬ p) := fun Q k => h _ (by rw [dec_not]; exact k)
theorem ais {p q : Prop} [Decidable p] [Decidable q] (h : Ans t σ H p) (e : p ↔ q) : Ans t σ H q := fun Q k => h Q (by rw [show decide p = decide q from by simp [e]]; exact k)
theorem vchain {p q : Prop} [Decidable p] [Decidable q] {r' : R2} (ha : Val ta σ H x) (hb : Val tb σ H y) (hc : Val tc σ H z) (h1 : ∀ Q : VK, Q (.bl (decide p)) H → r x y H Q) (h2 : ∀ Q : VK, Q (.bl (decide q)) H → r' y z H Q) :
    Val (tChain r r' ta tb tc) σ H (.bl (decide (p ∧ q))) := fun Q k => ha _ (hb _ (h1 _ ⟨_, rfl, by
  by_cases hp : p
  · rw [decide_eq_true hp]
    refine hc _ (h2 Q ?_)
    rw [show decide q = decide (p ∧ q) from by simp [hp]]; exact k
  · rw [decide_eq_false hp]
    rw [show decide (p ∧ q) = false from by simp [hp]] at k; exact k⟩))
theorem r0 {g : Int → Int → V} : ∀ Q : VK, Q (g i j) H → rI0 g (.int i) (.int j) H Q := fun _ q => ⟨i, j, rfl, rfl, q⟩
theorem va0 : VA tNil σ H [] := fun _ q => q
theorem va {tr : TA} {vs : List V} (h : Val ta σ H x) (hr : VA tr σ H vs) : VA (tCons ta tr) σ H (x :: vs) := fun _ q => h _ (hr _ q)
theorem vcall {sp : Sp} {dvs vs : List V} {E : XK} {tr : TA} (ha : VA tr σ H vs) (k : ∀ Q : VK, Q v H → sp (vs ++ dvs) H Q E) : Val (tCall sp dvs E tr) σ H v := fun Q q => ha _ (k Q q)
theorem c_call {sp : Sp} {dvs vs : List V} {E : XK} {tr : TA} {Q : VK} (ha : VA tr σ H vs) (k : sp (vs ++ dvs) H Q E) : tCall sp dvs E tr σ H Q := ha _ k
abbrev rIsiK (K : PySem.W.Frag) := rIsi K
theorem visi {c : V} {cu tu : Value} {b : Bool} (ha : Val ta σ H x) (hb : Val tb σ H c) (hc : ClsV c cu) (hx : TyX K H x tu) (hk : PySem.W.kitOne K tu cu = some b) : Val (tCB (rIsi K) (tCons ta (tCons tb tNil))) σ H (.bl b) := fun Q q => ha _ (hb _ ⟨x, c, tu, cu, b, rfl, hc, hx, hk, q⟩)
/-! ### statements -/
variable {D : Ends} {tz tu tw : TS}
theorem s_set {n : Nat} (σ' : L2.St) (h : Val te σ H v) (e : σ.set n (some v) = σ') (k : tz D σ' H) : tSeq (tAsg te (gName n)) tz D σ H := h _ (by
  show tz D (σ.set n (some v)) H
  rw [e]; exact k)
def kSet (tz : TS) (D : Ends) (σ : L2.St) (n : Nat) : VK := fun v H1 => tz D (σ.set n (some v)) H1
def kDrop (tz : TS) (D : Ends) (σ : L2.St) : VK := fun _ H1 => tz D σ H1
theorem c_set {n : Nat} (k : te σ H (kSet tz D σ n)) : tSeq (tAsg te (gName n)) tz D σ H := k
theorem k_set {n : Nat} (σ' : L2.St) (e : σ.set n (some v) = σ') (k : tz D σ' H) : kSet tz D σ n v H := by
  show tz D (σ.set n (some v)) H
  rw [e]; exact k
theorem k_setv {n : Nat} (w : V) (e : v = w) (k : kSet tz D σ n w H) : kSet tz D σ n v H := e ▸ k
theorem k_drop (k : tz D σ H) : kDrop tz D σ v H := k
theorem c_setv {n : Nat} (w : V) (e : v = w) (k : tz D (σ.set n (some w)) H) : tz D (σ.set n (some v)) H := e ▸ k
theorem c_sig (σ' : L2.St) (e : σ = σ') (k : tz D σ' H) : tz D σ H := e ▸ k
theorem c_op {r : R2} {Q : VK} (k : ta σ H fun x H1 => tb σ H1 fun y H2 => r x y H2 Q) : tOp r ta tb σ H Q := k
theorem s_ret (h : Val te σ H v) (k : D.rt v H) : tSeq (tRet te) tz D σ H := h _ k
theorem c_ret (k : te σ H D.rt) : tSeq (tRet te) tz D σ H := k
theorem s_drop (h : Val te σ H v) (k : tz D σ H) : tSeq (tDrop te) tz D σ H := h _ k
theorem c_drop (k : te σ H (kDrop tz D σ)) : tSeq (tDrop te) tz D σ H := k
theorem s_nx (k : D.nx σ H) : tNext D σ H := k
theorem s_nxu {N C Z : L2.St → Hp → Prop} (k : N σ H) : tNext { D with nx := N, ct := C, bk := Z } σ H := k
theorem s_nxs (k : tz D σ H) : tNext { D with nx := tz D } σ H := k
theorem s_if {p : Prop} [Decidable p] (h : Ans t σ H p) (h1 : p → tu { D with nx := tz D } σ H) (h2 : ¬ p → tw { D with nx := tz D } σ H) : tSeq (tIfS t tu tw) tz D σ H := h _ (by
  by_cases hp : p
  · rw [decide_eq_true hp]; exact h1 hp
  · rw [decide_eq_false hp]; exact h2 hp)
theorem s_ifM {p : Prop} [Decidable p] (M : L2.St → Hp → Prop) (h : Ans t σ H p) (h1 : p → tu { D with nx := M } σ H) (h2 : ¬ p → tw { D with nx := M } σ H) (hM : ∀ s G, M s G → tz D s G)
    (mono : ∀ (N : L2.St → Hp → Prop), (∀ s G, M s G → N s G) → (tu { D with nx := M } σ H → tu { D with nx := N } σ H) ∧ (tw { D with nx := M } σ H → tw { D with nx := N } σ H)) : tSeq (tIfS t tu tw) tz D σ H := h _ (by
  by_cases hp : p
  · rw [decide_eq_true hp]; exact (mono _ hM).1 (h1 hp)
  · rw [decide_eq_false hp]; exact (mono _ hM).2 (h2 hp))
/-- if c: x = e (no else): the value behind it -/
theorem s_ifset {p : Prop} [Decidable p] {n : Nat} (σ' : L2.St) (v : V) (h : Ans t σ H p) (h1 : p → Val te σ H v) (e : σ.set n (some v) = σ') (h2 : ¬ p → σ = σ') (k : tz D σ' H) : tSeq (tIfS t (tSeq (tAsg te (gName n)) tNext) tNext) tz D σ H :=
  s_if h (fun hp => s_set σ' (h1 hp) e k) (fun hp => by rw [h2 hp]; exact k)
theorem s_aug {n : Nat} (σ' : L2.St) {g : Int → Int → Int} (hx : σ[n]? = some (some (.int i))) (h : Val te σ H (.int j)) (e : σ.set n (some (.int (g i j))) = σ') (k : tz D σ' H) : tSeq (tAug n te (ipI g)) tz D σ H :=
  ⟨.int i, hx, h _ ⟨i, j, rfl, rfl, by
    show tz D (σ.set n (some (.int (g i j)))) H
    rw [e]; exact k⟩⟩
theorem s_forL {a : Addr} {xs : List V} {n : Nat} (h : Val te σ H (.ref a)) (hx : SqL K H a xs) (Pv : Nat → L2.St → Hp → Prop) (h0 : Pv 0 σ H) (hl : ∀ i σ' H', i ≤ xs.length → Pv i σ' H' → SqL K H' a xs)
    (hs : ∀ i x σ' H', xs[i]? = some x → Pv i σ' H' → tu { D with nx := Pv (i + 1), ct := Pv (i + 1), bk := tz D } (σ'.set n (some x)) H') (hd : ∀ σ' H', Pv xs.length σ' H' → tz D σ' H') : tSeq (tFor (iList K te) (gName n) tu) tz D σ H :=
  h _ ⟨a, rfl, ⟨xs, hx⟩, for_list Pv h0 hl hs hd⟩
theorem s_forT {a : Addr} {xs : List V} {n : Nat} (h : Val te σ H (.ref a)) (hx : SqT K H a xs) (Pv : Nat → L2.St → Hp → Prop) (h0 : Pv 0 σ H) (hl : ∀ i σ' H', i ≤ xs.length → Pv i σ' H' → SqT K H' a xs)
    (hs : ∀ i x σ' H', xs[i]? = some x → Pv i σ' H' → tu { D with nx := Pv (i + 1), ct := Pv (i + 1), bk := tz D } (σ'.set n (some x)) H') (hd : ∀ σ' H', Pv xs.length σ' H' → tz D σ' H') : tSeq (tFor (iTup K te) (gName n) tu) tz D σ H :=
  h _ ⟨a, rfl, ⟨xs, hx⟩, for_tup Pv h0 hl hs hd⟩
theorem s_forR1 {tr : TA} {n : Nat} {m : Int} (h : VA tr σ H [.int m]) (hm : -(2 ^ 62) ≤ m ∧ m < 2 ^ 62) (Pv : Nat → L2.St → Hp → Prop) (h0 : Pv 0 σ H)
    (hs : ∀ (i : Nat) σ' H', (i : Int) < m → Pv i σ' H' → tu { D with nx := Pv (i + 1), ct := Pv (i + 1), bk := tz D } (σ'.set n (some (.int (i : Int)))) H') (hd : ∀ σ' H', Pv m.toNat σ' H' → tz D σ' H') : tSeq (tFor (iRng1 tr) (gName n) tu) tz D σ H :=
  h _ ⟨m, rfl, hm.1, hm.2, for_range (lo := 0) (n := m.toNat) Pv h0 (fun i σ' H' hi p => by
    show tu { D with nx := Pv (i + 1), ct := Pv (i + 1), bk := tz D } (σ'.set n (some (.int ((0 : Int) + (i : Int))))) H'
    rw [Int.zero_add]
    exact hs i σ' H' (by omega) p) hd⟩
theorem s_forR2 {tr : TA} {n : Nat} {lo m : Int} (h : VA tr σ H [.int lo, .int m]) (hm : -(2 ^ 62) ≤ lo ∧ lo < 2 ^ 62 ∧ -(2 ^ 62) ≤ m ∧ m < 2 ^ 62) (Pv : Nat → L2.St → Hp → Prop) (h0 : Pv 0 σ H)
    (hs : ∀ (i : Nat) σ' H', lo + (i : Int) < m → Pv i σ' H' → tu { D with nx := Pv (i + 1), ct := Pv (i + 1), bk := tz D } (σ'.set n (some (.int (lo + (i : Int))))) H') (hd : ∀ σ' H', Pv (m - lo).toNat σ' H' → tz D σ' H') : tSeq (tFor (iRng2 tr) (gName n) tu) tz D σ H :=
  h _ ⟨lo, m, rfl, hm, for_range (lo := lo) (n := (m - lo).toNat) Pv h0 (fun i σ' H' hi p => hs i σ' H' (by omega) p) hd⟩
end
/-- a promise's two ends -/
def sz1 {n : Nat} (h : n ≤ 1000000) : n ≤ sizeLine := Nat.le_trans h (by decide)
def sz2 {n : Nat} (h : n < 1000000) : n < sizeLine := Nat.lt_of_lt_of_le h (by decide)
section
variable {K : PySem.W.Frag} {σ σ' : L2.St} {H : Hp} {ta tb te tc : TE} {D : Ends} {tz : TS} {v : V}
theorem c_callx {sp : Sp} {dvs : List V} {E : XK} {t : TA} {Q : VK} (k : t σ H fun vs H1 => sp (vs ++ dvs) H1 Q E) : tCall sp dvs E t σ H Q := k
theorem c_cons {tr : TA} {Q : List V → Hp → Prop} (k : ta σ H fun x H1 => tr σ H1 fun xs H2 => Q (x :: xs) H2) : tCons ta tr σ H Q := k
theorem c_nil {Q : List V → Hp → Prop} (k : Q [] H) : tNil σ H Q := k
theorem c_lst {t : TA} {Q : VK} (k : t σ H fun xs H1 => xs.length ≤ sizeLine ∧ ∀ p, H1 p = none → Q (.ref p) (upd H1 p (.lst xs))) : tLst t σ H Q := k
theorem c_tup {t : TA} {Q : VK} (k : t σ H fun xs H1 => xs.length ≤ sizeLine ∧ ∀ p, H1 p = none → Q (.ref p) (upd H1 p (.tup xs))) : tTup t σ H Q := k
theorem c_cb {r : List V → Hp → VK → Prop} {t : TA} {Q : VK} (k : t σ H fun vs H1 => r vs H1 Q) : tCB r t σ H Q := k
theorem c_asg {g : TG} (k : te σ H fun v H1 => g v σ H1 (tz D)) : tSeq (tAsg te g) tz D σ H := k
theorem c_test {Q : Bool → Hp → Prop} (k : te σ H fun x H' => ∃ b, x = .bl b ∧ Q b H') : tTest te σ H Q := k
theorem s_appI {l : Addr} {xs : List Int} {n : Int} (hl : H l = some (.lst (xs.map V.int))) (ha : Val ta σ H (.ref l)) (h : Val te σ H (.int n)) (hz : xs.length < 1000000) (k : tz D σ (upd H l (.lst ((xs ++ [n]).map V.int)))) :
    tSeq (tDrop (tBM K "list" rAppend ta (tCons te tNil))) tz D σ H := ha _ ⟨Or.inl ⟨rfl, xs.map V.int, SqL.of hl⟩, h _ ⟨l, xs.map V.int, .int n, rfl, rfl, hl, by rw [List.length_map]; exact sz2 hz, by
      show tz D σ (upd H l (.lst (xs.map V.int ++ [V.int n])))
      rw [List.map_append] at k; exact k⟩⟩
theorem s_app {l : Addr} {xs : List V} (hl : H l = some (.lst xs)) (ha : Val ta σ H (.ref l)) (h : Val te σ H v) (hz : xs.length < 1000000) (k : tz D σ (upd H l (.lst (xs ++ [v])))) :
    tSeq (tDrop (tBM K "list" rAppend ta (tCons te tNil))) tz D σ H := ha _ ⟨Or.inl ⟨rfl, xs, SqL.of hl⟩, h _ ⟨l, xs, v, rfl, rfl, hl, sz2 hz, k⟩⟩
theorem ix_nat {n : Nat} {i : Int} (h0 : 0 ≤ i) (h1 : i < (n : Int)) : ixN n i = some i.toNat := by
  unfold ixN
  rw [if_pos h0, if_pos h1]
theorem map_seti (xs : List Int) (j : Nat) (n : Int) : (xs.map V.int).set j (.int n) = (xs.set j n).map V.int := by rw [List.map_set]
theorem s_setI {l : Addr} {xs : List Int} {i n : Int} (hl : H l = some (.lst (xs.map V.int))) (h : Val te σ H (.int n)) (ha : Val ta σ H (.ref l)) (hb : Val tb σ H (.int i)) (h0 : 0 ≤ i) (h1 : i < (xs.length : Int)) (k : tz D σ (upd H l (.lst ((xs.set i.toNat n).map V.int)))) :
    tSeq (tAsg te (gSub ta tb rSetL)) tz D σ H := h _ (ha _ (hb _ ⟨l, xs.map V.int, i, i.toNat, rfl, rfl, hl, ix_nat h0 (by rw [List.length_map]; exact h1), by
      rw [map_seti]; exact k⟩))
theorem s_setL {l : Addr} {xs : List V} {i : Int} (hl : H l = some (.lst xs)) (h : Val te σ H v) (ha : Val ta σ H (.ref l)) (hb : Val tb σ H (.int i)) (h0 : 0 ≤ i) (h1 : i < (xs.length : Int)) (k : tz D σ (upd H l (.lst (xs.set i.toNat v)))) :
    tSeq (tAsg te (gSub ta tb rSetL)) tz D σ H := h _ (ha _ (hb _ ⟨l, xs, i, i.toNat, rfl, rfl, hl, ix_nat h0 h1, k⟩))
end
section
variable {K : PySem.W.Frag} {σ σ' : L2.St} {H : Hp} {ta tb te tc : TE} {t u : TT} {D : Ends} {tz tu tw : TS} {v w : V} {p q : Prop} [Decidable p] [Decidable q]
theorem fin {Q : VK} (k : Q v H) (e : w = v) : Q w H := e ▸ k
theorem map_int_get {xs : List Int} {i : Nat} {x : V} (h : (xs.map V.int)[i]? = some x) : ∃ n, x = V.int n ∧ xs[i]? = some n := by
  rw [List.getElem?_map] at h
  cases e : xs[i]? with
  | none => rw [e] at h; cases h
  | some n => rw [e] at h; exact ⟨n, (Option.some.inj h).symm, rfl⟩
theorem c_ifS (k : t σ H fun b H1 => if b = true then tu { D with nx := tz D } σ H1 else tw { D with nx := tz D } σ H1) : tSeq (tIfS t tu tw) tz D σ H := k
theorem c_ite {A B : Prop} (h1 : p → A) (h2 : ¬ p → B) : if decide p = true then A else B := by
  by_cases hp : p
  · rw [decide_eq_true hp]; exact h1 hp
  · rw [decide_eq_false hp]; exact h2 hp
theorem c_iteB {b : Bool} {A B : Prop} (h1 : b = true → A) (h2 : ¬ b = true → B) : if b = true then A else B := ite2 h1 h2
theorem c_make {C : Addr} {sp : Sp} {dvs : List V} {E : XK} {tr : TA} {Q : VK} (k : tr σ H fun vs H1 => ∀ x dx, H1 x = none → H1 dx = none → dx ≠ x →
  sp (.ref x :: (vs ++ dvs)) (upd (upd H1 dx (.own x)) x (.ins C dx [])) (fun v H2 => v = .non ∧ Q (.ref x) H2) E) : tMake C sp dvs E tr σ H Q := k
theorem upd_none {x dx : Addr} {o : HO} (h : H x = none) (ne : dx ≠ x) : upd H dx o x = none := by rw [upd_ne (Ne.symm ne)]; exact h
theorem Hs.start1 {x : Addr} {o : HO} (h : H x = some o) : Hs [x] H [(x, o)] H :=
  Hs.startF (fun q hq => by rw [List.mem_singleton.mp hq]; exact ⟨h, List.mem_singleton.mpr rfl⟩) (by simp)
theorem Hs.sep {F : List Addr} {B : Hp} {L R : List (Addr × HO)} (s : Hs F B L H) (is js : List Nat) {G : List Addr} (hd : ∀ i ∈ is, ∀ j ∈ js, i ≠ j) (h : is.map (fun i => L[i]?) = R.map some) (hg : js.map (fun j => (L[j]?).map (·.1)) = G.map some) : ∀ q ∈ R, q.1 ∉ G := fun q hq hm => by
  have h1 : some q ∈ is.map (fun i => L[i]?) := by rw [h]; exact List.mem_map.mpr ⟨q, hq, rfl⟩
  obtain ⟨i, hi, e1⟩ := List.mem_map.mp h1
  have h2 : some q.1 ∈ js.map (fun j => (L[j]?).map (·.1)) := by rw [hg]; exact List.mem_map.mpr ⟨q.1, hm, rfl⟩
  obtain ⟨j, hj, e2⟩ := List.mem_map.mp h2
  refine hd i hi j hj (nodup_at s.nd (x := q.1) ?_ ?_)
  · rw [List.getElem?_map]
    have e1' : L[i]? = some q := e1
    rw [e1']; rfl
  · rw [List.getElem?_map]; exact e2
theorem s_fld {a C dx : Addr} {f : Str} {fs : List (Str × V)} (fs' : List (Str × V)) (hv : Val tb σ H v) (ha : Val ta σ H (.ref a)) (ho : H a = some (.ins C dx fs)) (hc : Cls K C) (hn : NoAttr K C f) (hl : fs.length < 1000) (e : putF f v fs = fs')
    (k : tz D σ (upd H a (.ins C dx fs'))) : tSeq (sFld K ta tb f) tz D σ H := hv _ (ha _ ⟨a, C, dx, fs, rfl, ho, hc, hn, hl, by
      show tz D σ (upd H a (.ins C dx (putF f v fs)))
      rw [e]; exact k⟩)
theorem rep_one (n : Nat) (v : V) : (List.replicate n [v]).flatten = List.replicate n v := by
  induction n with
  | zero => rfl
  | succ n ih => rw [List.replicate_succ, List.flatten_cons, ih]; rfl
theorem dp_ints : ∀ ns : List Int, DpAll K H (ns.map V.int) (ns.map PyData.int)
  | [] => .nil
  | n :: r => .cons (.int n) (dp_ints r)
theorem lay_ints : ∀ ns : List Int, PyData.canLayAll0 (ns.map PyData.int) = true
  | [] => rfl
  | _ :: r => lay_ints r
theorem dep_ints : ∀ ns : List Int, PyData.depthAll (ns.map PyData.int) ≤ 1
  | [] => by decide
  | _ :: r => by
    have := dep_ints r
    show max _ (PyData.depthAll (r.map PyData.int)) ≤ 1
    exact Nat.max_le.mpr ⟨Nat.zero_le _, this⟩
theorem dep_ints0 : ∀ ns : List Int, PyData.depthAll (ns.map PyData.int) = 0
  | [] => rfl
  | _ :: r => by
    show max 0 (PyData.depthAll (r.map PyData.int)) = 0
    rw [dep_ints0 r]; rfl
theorem shp_ints (ns : List Int) : SeqAt.shaped (.list (ns.map PyData.int)) = true := by
  unfold SeqAt.shaped
  refine Bool.and_eq_true_iff.mpr ⟨lay_ints ns, decide_eq_true ?_⟩
  have := dep_ints ns
  show _ ≤ 64
  simp only [PyData.depth]
  omega
theorem vand (ha : Val ta σ H (.bl (decide p))) (hb : p → Val tb σ H (.bl (decide q))) : Val (tAndV ta tb) σ H (.bl (decide (p ∧ q))) := fun Q k => ha _ ⟨_, rfl, by
  by_cases hp : p
  · rw [decide_eq_true hp]
    refine hb hp Q ?_
    rw [show decide q = decide (p ∧ q) from by simp [hp]]; exact k
  · rw [decide_eq_false hp]
    rw [show decide (p ∧ q) = false from by simp [hp]] at k; exact k⟩
theorem vor (ha : Val ta σ H (.bl (decide p))) (hb : ¬ p → Val tb σ H (.bl (decide q))) : Val (tOrV ta tb) σ H (.bl (decide (p ∨ q))) := fun Q k => ha _ ⟨_, rfl, by
  by_cases hp : p
  · rw [decide_eq_true hp]
    rw [show decide (p ∨ q) = true from by simp [hp]] at k; exact k
  · rw [decide_eq_false hp]
    refine hb hp Q ?_
    rw [show decide q = decide (p ∨ q) from by simp [hp]]; exact k⟩
theorem vnot (ha : Val ta σ H (.bl (decide p))) : Val (tNotV ta) σ H (.bl (decide (¬ p))) := fun Q k => ha _ ⟨_, rfl, by rw [dec_not]; exact k⟩
/-! loops turn by turn -/
def Unr (tu : TS) (D : Ends) (tz : TS) (j : Nat) : Nat → Nat → L2.St → Hp → Prop
  | 0, _, σ, H => tz D σ H
  | m + 1, i, σ, H => tu { D with nx := Unr tu D tz j m (i + 1), ct := Unr tu D tz j m (i + 1), bk := tz D } (σ.set j (some (.int (i : Int)))) H
theorem s_unrR1 {tr : TA} {n m : Nat} (h : VA tr σ H [.int (m : Int)]) (hm : m < 1000) (k : Unr tu D tz n m 0 σ H) : tSeq (tFor (iRng1 tr) (gName n) tu) tz D σ H :=
  s_forR1 h ⟨by omega, by omega⟩ (fun i σ H => Unr tu D tz n (m - i) i σ H) (by exact k) (fun i σ' H' hi p => by
    have e : m - i = (m - (i + 1)) + 1 := by omega
    rw [e] at p
    exact p) (fun σ' H' p => by
    rw [show m - (m : Int).toNat = 0 by omega] at p
    exact p)
theorem u_done {j i : Nat} (k : tz D σ H) : Unr tu D tz j 0 i σ H := k
theorem u_next {j m i : Nat} (k : tu { D with nx := Unr tu D tz j m (i + 1), ct := Unr tu D tz j m (i + 1), bk := tz D } (σ.set j (some (.int (i : Int)))) H) : Unr tu D tz j (m + 1) i σ H := k
theorem visb {a b : Bool} (ha : Val ta σ H (.bl a)) (hb : Val tb σ H (.bl b)) : Val (tOp rIsB ta tb) σ H (.bl (decide (a = b))) := fun Q q => ha _ (hb _ ⟨a, b, rfl, rfl, q⟩)
theorem vnotb {a b : Bool} (ha : Val ta σ H (.bl a)) (hb : Val tb σ H (.bl b)) : Val (tOp rNotB ta tb) σ H (.bl (decide (a ≠ b))) := fun Q q => ha _ (hb _ ⟨a, b, rfl, rfl, by rw [dec_not]; exact q⟩)
theorem Hs.tl {F : List Addr} {B : Hp} {L : List (Addr × HO)} {x : Addr × HO} (s : Hs F B (x :: L) H) : Hs F B L H :=
  ⟨s.fr, s.al, fun q h => s.own q (List.mem_cons_of_mem _ h), fun q h => s.fs q (List.mem_cons_of_mem _ h), (List.nodup_cons.mp s.nd).2⟩
theorem range_map_snoc (f : Nat → Int) (i : Nat) : (((List.range (i + 1)).map f).map V.int) = (((List.range i).map f).map V.int) ++ [V.int (f i)] := by
  rw [List.range_succ, List.map_append, List.map_append]; rfl
theorem c_lcR {F : List Addr} {B : Hp} {L : List (Addr × HO)} {n : Int} {tr : TA} {j : Nat} {vs : List Nat} {Q : VK} (f : Nat → Int) (s : Hs F B L H) (h : VA tr σ H [.int n]) (hn : 0 ≤ n ∧ n ≤ 1000000) (hw : ∀ x, wipe ((wipe σ vs).set j (some x)) vs = wipe σ vs)
    (he : ∀ (i : Nat) H', (i : Int) < n → Hs F B L H' → Val te ((wipe σ vs).set j (some (.int (i : Int)))) H' (.int (f i)))
    (k : ∀ D H', Hs F B ((D, .lst (((List.range n.toNat).map f).map V.int)) :: L) H' → Q (.ref D) H') : tLc (iRng1 tr) (gName j) tYes te vs σ H Q :=
  h _ ⟨n, rfl, by omega, by omega, fun D hD => lc_range (lo := 0) (n := n.toNat) (fun i H' => Hs F B ((D, .lst (((List.range i).map f).map V.int)) :: L) H') (s.new hD _) (fun i H' hi p => by
    show wipe ((wipe σ vs).set j (some (.int ((0 : Int) + (i : Int))))) vs = wipe σ vs ∧ te ((wipe σ vs).set j (some (.int ((0 : Int) + (i : Int))))) H' fun y H4 => ∃ acc, H4 D = some (.lst acc) ∧ acc.length < sizeLine ∧ Hs F B ((D, .lst (((List.range (i + 1)).map f).map V.int)) :: L) (upd H4 D (.lst (acc ++ [y])))
    rw [Int.zero_add]
    refine ⟨hw _, he i H' (by omega) p.tl _ ⟨((List.range i).map f).map V.int, p.mem 0 rfl, sz2 (by simp only [List.length_map, List.length_range]; omega), ?_⟩⟩
    rw [range_map_snoc]
    exact p.wr 0 _ rfl) (fun H' p => k D H' p)⟩
theorem c_yes {A B : Prop} (hp : p) (k : A) : if decide p = true then A else B := by rw [decide_eq_true hp]; exact k
theorem c_no {A B : Prop} (hp : ¬ p) (k : B) : if decide p = true then A else B := by rw [decide_eq_false hp]; exact k
theorem ty_l {a : Addr} {xs : List V} (h : SqL K H a xs) : tyV K "list" (.ref a) H := .inl ⟨rfl, xs, h⟩
abbrev rMin2 : List V → Hp → VK → Prop := fun xs H Q => ∃ i j, xs = [.int i, .int j] ∧ Q (.int (if j < i then j else i)) H
abbrev rMax2 : List V → Hp → VK → Prop := fun xs H Q => ∃ i j, xs = [.int i, .int j] ∧ Q (.int (if j > i then j else i)) H
theorem vmin2 {i j : Int} (ha : Val ta σ H (.int i)) (hb : Val tb σ H (.int j)) : Val (tCB rMin2 (tCons ta (tCons tb tNil))) σ H (.int (if j < i then j else i)) := fun Q q => ha _ (hb _ ⟨i, j, rfl, q⟩)
theorem vmax2 {i j : Int} (ha : Val ta σ H (.int i)) (hb : Val tb σ H (.int j)) : Val (tCB rMax2 (tCons ta (tCons tb tNil))) σ H (.int (if j > i then j else i)) := fun Q q => ha _ (hb _ ⟨i, j, rfl, q⟩)
theorem pe_nev {X : Cx} {e : Expr} : PE X e (fun _ _ _ => False) := ⟨fun _ _ _ _ _ _ h => h.elim⟩
theorem pt_nev {X : Cx} {e : Expr} : PT X e (fun _ _ _ => False) := ⟨fun _ _ _ _ _ _ h => h.elim⟩
theorem kQb {b : Bool} {P : Hp → Prop} (Q : VK) (k : ∀ H', P H' → Q (.bl (decide (b = true))) H') : ∀ H', P H' → Q (.bl b) H' := fun H' h => by
  have := k H' h
  rwa [show decide (b = true) = b from by cases b <;> rfl] at this
theorem c_andV {F : List Addr} {B : Hp} {L : List (Addr × HO)} {Q : VK} (s : Hs F B L H) (ha : Val ta σ H (.bl (decide p))) (hb : p → ∀ Q : VK, (∀ H', Hs F B L H' → Q (.bl (decide q)) H') → tb σ H Q)
    (k : ∀ H', Hs F B L H' → Q (.bl (decide (p ∧ q))) H') : tAndV ta tb σ H Q := ha _ ⟨_, rfl, by
  by_cases hp : p
  · rw [decide_eq_true hp]
    refine hb hp Q fun H' h => ?_
    rw [show decide q = decide (p ∧ q) from by simp [hp]]; exact k H' h
  · rw [decide_eq_false hp]
    have := k H s
    rw [show decide (p ∧ q) = false from by simp [hp]] at this; exact this⟩
theorem c_orV {F : List Addr} {B : Hp} {L : List (Addr × HO)} {Q : VK} (s : Hs F B L H) (ha : Val ta σ H (.bl (decide p))) (hb : ¬ p → ∀ Q : VK, (∀ H', Hs F B L H' → Q (.bl (decide q)) H') → tb σ H Q)
    (k : ∀ H', Hs F B L H' → Q (.bl (decide (p ∨ q))) H') : tOrV ta tb σ H Q := ha _ ⟨_, rfl, by
  by_cases hp : p
  · rw [decide_eq_true hp]
    have := k H s
    rw [show decide (p ∨ q) = true from by simp [hp]] at this; exact this
  · rw [decide_eq_false hp]
    refine hb hp Q fun H' h => ?_
    rw [show decide q = decide (p ∨ q) from by simp [hp]]; exact k H' h⟩
theorem c_iten {A B : Prop} (h2 : ¬ p → A) (h1 : p → B) : if (!decide p) = true then A else B := by
  by_cases hp : p
  · rw [decide_eq_true hp]; exact h1 hp
  · rw [decide_eq_false hp]; exact h2 hp
theorem c_iteBn {b : Bool} {A B : Prop} (h2 : ¬ b = true → A) (h1 : b = true → B) : if (!b) = true then A else B := by
  cases b with
  | true => exact h1 rfl
  | false => exact h2 Bool.false_ne_true
theorem c_or {Q : Bool → Hp → Prop} (k : t σ H fun c H1 => if c = true then Q true H1 else u σ H1 Q) : tOr t u σ H Q := k
theorem c_and {Q : Bool → Hp → Prop} (k : t σ H fun c H1 => if c = true then u σ H1 Q else Q false H1) : tAnd t u σ H Q := k
theorem c_not {Q : Bool → Hp → Prop} (k : t σ H fun c H1 => Q (!c) H1) : tNot t σ H Q := k
theorem c_tB {Q : Bool → Hp → Prop} (k : te σ H fun x H' => ∃ b, x = .bl b ∧ Q b H') : tB te σ H Q := k
theorem flat_ints (ns : List Int) : (ns.map V.int).all flatV = true := by
  induction ns with
  | nil => rfl
  | cons n r ih => exact ih
theorem inV_ints (a : Int) (ns : List Int) : inV (V.int a) (ns.map V.int) = decide (a ∈ ns) := by
  induction ns with
  | nil => rfl
  | cons n r ih =>
    have e : inV (V.int a) ((n :: r).map V.int) = (n == a || inV (V.int a) (r.map V.int)) := rfl
    rw [e, ih]
    by_cases h : n = a
    · subst h; simp
    · have h2 : ¬ a = n := fun z => h z.symm
      simp [h, h2]
theorem r_in {a : Int} {ns : List Int} {p : Addr} {Q : VK} (h : SqL K H p (ns.map V.int) ∨ SqT K H p (ns.map V.int)) (k : Q (.bl (decide (a ∈ ns))) H) : rIn K false (.int a) (.ref p) H Q :=
  ⟨p, ns.map V.int, rfl, h, rfl, flat_ints _, by
    show Q (.bl (inV (V.int a) (ns.map V.int))) H
    rw [inV_ints]; exact k⟩
theorem r_notin {a : Int} {ns : List Int} {p : Addr} {Q : VK} (h : SqL K H p (ns.map V.int) ∨ SqT K H p (ns.map V.int)) (k : Q (.bl (decide (¬ (a ∈ ns)))) H) : rIn K true (.int a) (.ref p) H Q :=
  ⟨p, ns.map V.int, rfl, h, rfl, flat_ints _, by
    show Q (.bl (!inV (V.int a) (ns.map V.int))) H
    rw [inV_ints, dec_not]; exact k⟩
theorem inI_t {a : Int} {ns : List Int} (h : (if false = true then !inV (V.int a) (ns.map V.int) else inV (V.int a) (ns.map V.int)) = true) : a ∈ ns := by
  have h' : inV (V.int a) (ns.map V.int) = true := h
  rw [inV_ints] at h'; exact of_decide_eq_true h'
theorem inI_f {a : Int} {ns : List Int} (h : ¬ (if false = true then !inV (V.int a) (ns.map V.int) else inV (V.int a) (ns.map V.int)) = true) : ¬ a ∈ ns := fun z => h (by
  show inV (V.int a) (ns.map V.int) = true
  rw [inV_ints]; exact decide_eq_true z)
theorem niI_t {a : Int} {ns : List Int} (h : (if true = true then !inV (V.int a) (ns.map V.int) else inV (V.int a) (ns.map V.int)) = true) : ¬ a ∈ ns := fun z => by
  have h' : (!inV (V.int a) (ns.map V.int)) = true := h
  rw [inV_ints, decide_eq_true z] at h'; cases h'
theorem niI_f {a : Int} {ns : List Int} (h : ¬ (if true = true then !inV (V.int a) (ns.map V.int) else inV (V.int a) (ns.map V.int)) = true) : a ∈ ns := by
  refine Decidable.byContradiction fun z => h ?_
  show (!inV (V.int a) (ns.map V.int)) = true
  rw [inV_ints, decide_eq_false z]; rfl
end
end G
local macro_rules | `(tactic| walk_at "side") => `(tactic| first | omega | assumption | decide | exact Int.emod_nonneg _ (by omega) | exact Int.emod_lt_of_pos _ (by omega) | (simp only [List.length_map, List.length_append, List.length_cons, List.length_nil, List.length_replicate, List.length_set, G.gi] <;> omega) | (simp <;> omega) | walk_at "side2")
local macro_rules | `(tactic| walk_at "cmul") => `(tactic| first | decide | (constructor <;> omega))
local macro_rules | `(tactic| walk_at "cmul2") => `(tactic| first | exact .inl (by constructor <;> omega) | exact .inr (by constructor <;> omega))
local macro_rules | `(tactic| walk_at "dead") => `(tactic| first | omega | contradiction | (simp_all; done) | (simp_all; omega))
local macro_rules | `(tactic| walk_at "finL") => `(tactic| first | rfl | (subst_vars; rfl) | (simp; done))
local macro_rules | `(tactic| walk_at "inv") => `(tactic| first | assumption | rfl | omega | (simp; done) | (simp_all; done))
local macro_rules | `(tactic| walk_at "fin") => `(tactic| first | rfl | (simp_all; done))
local macro_rules | `(tactic| walk_at "shp") => `(tactic| first | rfl | decide | (unfold PySem.SeqAt.shaped; simp [PySem.PyData.canLay0, PySem.PyData.canLayAll0, PySem.PyData.depth, PySem.PyData.depthAll, G.lay_ints, G.dep_ints0]; done) | exact G.shp_ints _)
local macro_rules | `(tactic| walk_at "known") => `(tactic| first | decide | (simp; done) | omega | (simp_all; done))
/-! ### texts by their codes -/
namespace G
open PySem PySem.Spec PyProof.Rows L2
def sO (xs : List Nat) : Str := ⟨xs.toArray⟩
theorem sO_cps (xs : List Nat) : (sO xs).cps.toList = xs := rfl
theorem sO_len (xs : List Nat) : (sO xs).length = xs.length := by simp [sO, Str.length]
theorem sO_app (xs ys : List Nat) : sO xs ++ sO ys = sO (xs ++ ys) := by
  show Str.append (sO xs) (sO ys) = sO (xs ++ ys)
  simp [sO, Str.append]
theorem sO_inj {xs ys : List Nat} (h : sO xs = sO ys) : xs = ys := by
  have := congrArg (fun s : Str => s.cps.toList) h
  exact this
theorem sO_of (s : Str) : s = sO s.cps.toList := by
  cases s with
  | mk c => simp [sO]
def gn (xs : List Nat) (i : Int) : Nat := xs.getD i.toNat 0
theorem at_gn {xs : List Nat} {i : Int} (h0 : 0 ≤ i) (h1 : i < (xs.length : Int)) : atI xs i = some (gn xs i) := by
  obtain ⟨n, rfl⟩ := Int.eq_ofNat_of_zero_le h0
  refine atI_nat ?_
  have hn : n < xs.length := by omega
  rw [List.getElem?_eq_getElem hn]
  show some xs[n] = some (xs.getD n 0)
  rw [List.getD_eq_getElem?_getD, List.getElem?_eq_getElem hn]; rfl
theorem gn_mem {xs : List Nat} {i : Int} (h0 : 0 ≤ i) (h1 : i < (xs.length : Int)) : gn xs i ∈ xs := by
  obtain ⟨n, rfl⟩ := Int.eq_ofNat_of_zero_le h0
  have hn : n < xs.length := by omega
  show xs.getD n 0 ∈ xs
  rw [List.getD_eq_getElem?_getD, List.getElem?_eq_getElem hn]
  exact List.getElem_mem hn
section
variable {K : PySem.W.Frag} {σ σ' : L2.St} {H : Hp} {ta tb te : TE} {tz tu : TS} {D : Ends}
abbrev rAddS : R2 := fun x y H Q => ∃ i j, x = .str i ∧ y = .str j ∧ i.length + j.length ≤ sizeLine ∧ Q (.str (i ++ j)) H
theorem vcat {a b : List Nat} (h : a.length + b.length ≤ 1000000) (ha : Val ta σ H (.str (sO a))) (hb : Val tb σ H (.str (sO b))) : Val (tOp rAddS ta tb) σ H (.str (sO (a ++ b))) := fun Q q =>
  ha _ (hb _ ⟨sO a, sO b, rfl, rfl, by rw [sO_len, sO_len]; exact sz1 h, by rw [sO_app]; exact q⟩)
theorem r_cat {a b : List Nat} {Q : VK} (h : a.length + b.length ≤ 1000000) (k : Q (.str (sO (a ++ b))) H) : rAddS (.str (sO a)) (.str (sO b)) H Q :=
  ⟨sO a, sO b, rfl, rfl, by rw [sO_len, sO_len]; exact sz1 h, by rw [sO_app]; exact k⟩
theorem vixS {a : List Nat} {i : Int} {c : Nat} (h : a.length ≤ 1000000) (hc : atI a i = some c) (ha : Val ta σ H (.str (sO a))) (hb : Val tb σ H (.int i)) : Val (tOp rIxS ta tb) σ H (.str (sO [c])) := fun Q q =>
  ha _ (hb _ ⟨sO a, i, c, rfl, rfl, by rw [sO_len]; exact sz1 h, by rw [sO_cps]; exact hc, q⟩)
abbrev rLenT : List V → Hp → VK → Prop := fun xs H Q => ∃ z, xs = [.str z] ∧ z.length ≤ sizeLine ∧ Q (.int z.length) H
theorem vlenS {a : List Nat} (h : a.length ≤ 1000000) (ha : Val ta σ H (.str (sO a))) : Val (tCB rLenT (tCons ta tNil)) σ H (.int a.length) := fun Q q =>
  ha _ ⟨sO a, rfl, by rw [sO_len]; exact sz1 h, by rw [sO_len]; exact q⟩
theorem veqS {a b : List Nat} (ha : Val ta σ H (.str (sO a))) (hb : Val tb σ H (.str (sO b))) : Val (tOp rEq ta tb) σ H (.bl (decide (a = b))) := fun Q q =>
  ha _ (hb _ ⟨rfl, by rw [dec_eq_V (fun x => V.str (sO x)) (fun _ _ e => sO_inj (V.str.inj e))]; exact q⟩)
theorem vneS {a b : List Nat} (ha : Val ta σ H (.str (sO a))) (hb : Val tb σ H (.str (sO b))) : Val (tOp rNe ta tb) σ H (.bl (decide (a ≠ b))) := fun Q q =>
  ha _ (hb _ ⟨rfl, by rw [dec_eq_V (fun x => V.str (sO x)) (fun _ _ e => sO_inj (V.str.inj e)), dec_not]; exact q⟩)
theorem r_eqS {a b : List Nat} {Q : VK} (k : Q (.bl (decide (a = b))) H) : rEq (.str (sO a)) (.str (sO b)) H Q := ⟨rfl, by rw [dec_eq_V (fun x => V.str (sO x)) (fun _ _ e => sO_inj (V.str.inj e))]; exact k⟩
theorem r_neS {a b : List Nat} {Q : VK} (k : Q (.bl (decide (a ≠ b))) H) : rNe (.str (sO a)) (.str (sO b)) H Q := ⟨rfl, by rw [dec_eq_V (fun x => V.str (sO x)) (fun _ _ e => sO_inj (V.str.inj e)), dec_not]; exact k⟩
abbrev rOrd : List V → Hp → VK → Prop := fun xs H Q => ∃ x, xs = [.str x] ∧ x.length = 1 ∧ Q (.int (x.cps.getD 0 0 : Nat)) H
theorem vord {c : Nat} (ha : Val ta σ H (.str (sO [c]))) : Val (tCB rOrd (tCons ta tNil)) σ H (.int c) := fun Q q => ha _ ⟨sO [c], rfl, rfl, q⟩
/-- for c in s -/
theorem s_forS {a : List Nat} {n : Nat} (h : Val te σ H (.str (sO a))) (Pv : Nat → L2.St → Hp → Prop) (h0 : Pv 0 σ H)
    (hs : ∀ i c σ' H', a[i]? = some c → Pv i σ' H' → tu { D with nx := Pv (i + 1), ct := Pv (i + 1), bk := tz D } (σ'.set n (some (.str (sO [c])))) H') (hd : ∀ σ' H', Pv a.length σ' H' → tz D σ' H') : tSeq (tFor (iStr te) (gName n) tu) tz D σ H :=
  h _ ⟨sO a, rfl, for_it (n := a.length) (Y := fun i H v H' => H' = H ∧ ∃ c, a[i]? = some c ∧ v = .str (sO [c])) ⟨fun i _ hi _ => by
      show i < (sO a).cps.size
      simpa [sO] using hi, fun _ _ => by
      show (sO a).cps.size ≤ a.length
      simp [sO], fun i _ x _ _ _ y => by
      obtain ⟨e, c, hc, hv⟩ := y
      refine ⟨e, c, ?_, hv⟩
      have hc' : (sO a).cps[i]? = some c := hc
      simpa [sO] using hc'⟩ (G := fun _ => True) Pv h0 (fun _ _ _ _ _ => trivial) (fun i x σ1 H1 H2 hi hp y => by
    obtain ⟨rfl, c, hc, rfl⟩ := y
    exact hs i c σ1 H2 hc hp) hd⟩
/-- [e for c in s] -/
theorem c_lcS {F : List Addr} {B : Hp} {L : List (Addr × HO)} {a : List Nat} {j : Nat} {vs : List Nat} {Q : VK} (g : Nat → V) (s : Hs F B L H) (h : Val te σ H (.str (sO a))) (hn : a.length ≤ 100000) (hw : ∀ x, wipe ((wipe σ vs).set j (some x)) vs = wipe σ vs)
    (he : ∀ (i : Nat) c H', a[i]? = some c → Hs F B L H' → Val tb ((wipe σ vs).set j (some (.str (sO [c])))) H' (g c))
    (k : ∀ D H', Hs F B ((D, .lst (a.map g)) :: L) H' → Q (.ref D) H') : tLc (iStr te) (gName j) tYes tb vs σ H Q :=
  h _ ⟨sO a, rfl, fun D hD => lc_it (n := a.length) (G := fun _ => True) (Y := fun i H v H' => H' = H ∧ ∃ c, a[i]? = some c ∧ v = .str (sO [c])) ⟨fun i _ hi _ => by
      show i < (sO a).cps.size
      simpa [sO] using hi, fun _ _ => by
      show (sO a).cps.size ≤ a.length
      simp [sO], fun i _ x _ _ _ y => by
      obtain ⟨e, c, hc, hv⟩ := y
      refine ⟨e, c, ?_, hv⟩
      have hc' : (sO a).cps[i]? = some c := hc
      simpa [sO] using hc'⟩ (fun i H' => Hs F B ((D, .lst ((a.take i).map g)) :: L) H') (s.new hD _) (fun _ _ _ _ => trivial) (fun i x H1 H2 hi p y => by
    obtain ⟨rfl, c, hc, rfl⟩ := y
    show wipe ((wipe σ vs).set j (some (.str (sO [c])))) vs = wipe σ vs ∧ tb ((wipe σ vs).set j (some (.str (sO [c])))) H2 fun y H4 => ∃ acc, H4 D = some (.lst acc) ∧ acc.length < sizeLine ∧ Hs F B ((D, .lst ((a.take (i + 1)).map g)) :: L) (upd H4 D (.lst (acc ++ [y])))
    refine ⟨hw _, he i c H2 hc p.tl _ ⟨(a.take i).map g, p.mem 0 rfl, sz2 (by rw [List.length_map, List.length_take]; omega), ?_⟩⟩
    rw [show (a.take (i + 1)).map g = (a.take i).map g ++ [g c] from by rw [List.take_add_one, hc, List.map_append]; rfl]
    exact p.wr 0 _ rfl) (fun H' p => k D H' (by rwa [List.take_length] at p))⟩
theorem map_comp_V {α β : Type} (f : α → β) (v : β → V) (a : List α) : a.map (fun c => v (f c)) = (a.map f).map v := (List.map_map ..).symm
abbrev rJoin (K : PySem.W.Frag) : V → List V → Hp → VK → Prop := fun x xs H Q => ∃ a p, ∃ ys : List Str, x = .str a ∧ xs = [.ref p] ∧ (SqL K H p (ys.map V.str) ∨ SqT K H p (ys.map V.str)) ∧ (ys.map (·.length)).sum + ys.length * a.length ≤ 16777216 ∧ Q (.str (Txt.join a ys)) H
theorem c_m1 {r : V → List V → Hp → VK → Prop} {Q : VK} (k : ta σ H fun x H1 => (∃ a, x = .str a) ∧ te σ H1 fun y H2 => r x [y] H2 Q) : tM1 r ta te σ H Q := k
theorem fold_join (acc : List Nat) : ∀ ws : List (List Nat), (ws.map sO).foldl (fun (acc : Array Nat) (p : Str) => acc ++ (sO []).cps ++ p.cps) acc.toArray = (acc ++ ws.flatten).toArray
  | [] => by simp
  | w :: r => by
    have e : acc.toArray ++ (sO []).cps ++ (sO w).cps = (acc ++ w).toArray := by simp [sO]
    rw [List.map_cons, List.foldl_cons, e, fold_join (acc ++ w) r, List.flatten_cons, List.append_assoc]
theorem join_nil (ws : List (List Nat)) : Txt.join (sO []) (ws.map sO) = sO ws.flatten := by
  show (⟨((ws.map sO).drop 1).foldl (fun acc p => acc ++ (sO []).cps ++ p.cps) ((ws.map sO).headD Str.empty).cps⟩ : Str) = sO ws.flatten
  cases ws with
  | nil => rfl
  | cons w r =>
    show (⟨(r.map sO).foldl (fun acc p => acc ++ (sO []).cps ++ p.cps) w.toArray⟩ : Str) = sO (w :: r).flatten
    rw [fold_join w r, List.flatten_cons]; rfl
theorem len_strs (ws : List (List Nat)) : ((ws.map sO).map (·.length)).sum = ws.flatten.length := by
  induction ws with
  | nil => rfl
  | cons w r ih => rw [List.map_cons, List.map_cons, List.sum_cons, ih, List.flatten_cons, List.length_append, sO_len]
theorem r_join {ws : List (List Nat)} {p : Addr} {Q : VK} (h : SqL K H p ((ws.map sO).map V.str)) (hl : ws.flatten.length ≤ 1000000) (k : Q (.str (sO ws.flatten)) H) : rJoin K (.str (sO [])) [.ref p] H Q :=
  ⟨sO [], p, ws.map sO, rfl, rfl, .inl h, by
    rw [len_strs]
    have e : (sO []).length = 0 := rfl
    rw [e, Nat.mul_zero]; omega, by rw [join_nil]; exact k⟩
end
end G
/-! ### comprehensions with a test, over lists, tuples and ranges of ints; insert; slices -/
namespace G
open PySem PySem.Spec PyProof.Rows L2
section
variable {K : PySem.W.Frag} {σ σ' : L2.St} {H : Hp} {ta tb te : TE} {tt : TT} {tz tu : TS} {D : Ends} {F : List Addr} {B : Hp} {L : List (Addr × HO)}
theorem ans_yes : Ans tYes σ H True := fun _ q => q
def fm (p : Int → Prop) [DecidablePred p] (f : Int → Int) (ns : List Int) : List Int := (ns.filter fun x => decide (p x)).map f
theorem fm_le (p : Int → Prop) [DecidablePred p] (f : Int → Int) (ns : List Int) : (fm p f ns).length ≤ ns.length := by
  unfold fm; rw [List.length_map]; exact List.length_filter_le _ _
theorem fm_snoc (p : Int → Prop) [DecidablePred p] (f : Int → Int) (ns : List Int) (n : Int) : fm p f (ns ++ [n]) = fm p f ns ++ (if p n then [f n] else []) := by
  unfold fm
  rw [List.filter_append, List.map_append]
  by_cases h : p n
  · simp [h]
  · simp [h]
theorem c_lcF {ns : List Int} {a : Addr} {j : Nat} {vs : List Nat} {Q : VK} (p : Int → Prop) [DecidablePred p] (f : Int → Int) (s : Hs F B L H) (h : Val te σ H (.ref a)) (hl : ∀ H', Hs F B L H' → SqL K H' a (ns.map V.int)) (hn : ns.length ≤ 100000) (hw : ∀ x, wipe ((wipe σ vs).set j (some x)) vs = wipe σ vs)
    (ht : ∀ (i : Nat) n H', ns[i]? = some n → Hs F B L H' → Ans tt ((wipe σ vs).set j (some (.int n))) H' (p n))
    (he : ∀ (i : Nat) n H', ns[i]? = some n → p n → Hs F B L H' → Val tb ((wipe σ vs).set j (some (.int n))) H' (.int (f n)))
    (k : ∀ D H', Hs F B ((D, .lst ((fm p f ns).map V.int)) :: L) H' → Q (.ref D) H') : tLc (iList K te) (gName j) tt tb vs σ H Q :=
  h _ ⟨a, rfl, ⟨_, hl H s⟩, fun D hD => lc_list (xs := ns.map V.int) (fun i H' => Hs F B ((D, .lst ((fm p f (ns.take i)).map V.int)) :: L) H') (s.new hD _) (fun i H' _ q => hl _ q.tl) (fun i x H2 hx q => by
    rw [List.getElem?_map] at hx
    cases e : ns[i]? with
    | none => rw [e] at hx; cases hx
    | some n =>
      rw [e] at hx; cases hx
      show wipe ((wipe σ vs).set j (some (.int n))) vs = wipe σ vs ∧ tt ((wipe σ vs).set j (some (.int n))) H2 fun b H3 =>
        if b = true then tb ((wipe σ vs).set j (some (.int n))) H3 fun y H4 => ∃ acc, H4 D = some (.lst acc) ∧ acc.length < sizeLine ∧ Hs F B ((D, .lst ((fm p f (ns.take (i + 1))).map V.int)) :: L) (upd H4 D (.lst (acc ++ [y])))
        else Hs F B ((D, .lst ((fm p f (ns.take (i + 1))).map V.int)) :: L) H3
      refine ⟨hw _, ht i n H2 e q.tl _ ?_⟩
      have e1 : ns.take (i + 1) = ns.take i ++ [n] := by rw [List.take_add_one, e]; rfl
      rw [e1, fm_snoc]
      by_cases hp : p n
      · rw [decide_eq_true hp, if_pos hp]
        refine he i n H2 e hp q.tl _ ⟨_, q.mem 0 rfl, sz2 (by rw [List.length_map]; exact Nat.lt_of_le_of_lt (fm_le ..) (by rw [List.length_take]; omega)), ?_⟩
        rw [List.map_append]
        exact q.wr 0 _ rfl
      · rw [decide_eq_false hp, if_neg hp, List.append_nil]
        exact q) (fun H' q => k D H' (by rwa [List.length_map, List.take_length] at q))⟩
def rgI (lo : Int) (n : Nat) : List Int := (List.range n).map fun (j : Nat) => lo + (j : Int)
theorem rgI_snoc (lo : Int) (n : Nat) : rgI lo (n + 1) = rgI lo n ++ [lo + (n : Int)] := by unfold rgI; rw [List.range_succ, List.map_append]; rfl
theorem rgI_len (lo : Int) (n : Nat) : (rgI lo n).length = n := by unfold rgI; rw [List.length_map, List.length_range]
theorem mem_rgI {lo x : Int} {n : Nat} : x ∈ rgI lo n ↔ lo ≤ x ∧ x < lo + (n : Int) := by
  unfold rgI
  rw [List.mem_map]
  constructor
  · rintro ⟨j, hj, rfl⟩; have := List.mem_range.mp hj; omega
  · rintro ⟨h0, h1⟩; exact ⟨(x - lo).toNat, List.mem_range.mpr (by omega), by omega⟩
theorem c_lcR2 {lo m : Int} {tr : TA} {j : Nat} {vs : List Nat} {Q : VK} (p : Int → Prop) [DecidablePred p] (f : Int → Int) (s : Hs F B L H) (h : VA tr σ H [.int lo, .int m]) (hn : -1000000 ≤ lo ∧ lo ≤ 1000000 ∧ -1000000 ≤ m ∧ m - lo ≤ 100000) (hw : ∀ x, wipe ((wipe σ vs).set j (some x)) vs = wipe σ vs)
    (ht : ∀ n H', lo ≤ n → n < m → Hs F B L H' → Ans tt ((wipe σ vs).set j (some (.int n))) H' (p n))
    (he : ∀ n H', lo ≤ n → n < m → p n → Hs F B L H' → Val te ((wipe σ vs).set j (some (.int n))) H' (.int (f n)))
    (k : ∀ D H', Hs F B ((D, .lst ((fm p f (rgI lo (m - lo).toNat)).map V.int)) :: L) H' → Q (.ref D) H') : tLc (iRng2 tr) (gName j) tt te vs σ H Q :=
  h _ ⟨lo, m, rfl, by omega, fun D hD => lc_range (lo := lo) (n := (m - lo).toNat) (fun i H' => Hs F B ((D, .lst ((fm p f (rgI lo i)).map V.int)) :: L) H') (s.new hD _) (fun i H2 hi q => by
    show wipe ((wipe σ vs).set j (some (.int (lo + (i : Int))))) vs = wipe σ vs ∧ tt ((wipe σ vs).set j (some (.int (lo + (i : Int))))) H2 fun b H3 =>
        if b = true then te ((wipe σ vs).set j (some (.int (lo + (i : Int))))) H3 fun y H4 => ∃ acc, H4 D = some (.lst acc) ∧ acc.length < sizeLine ∧ Hs F B ((D, .lst ((fm p f (rgI lo (i + 1))).map V.int)) :: L) (upd H4 D (.lst (acc ++ [y])))
        else Hs F B ((D, .lst ((fm p f (rgI lo (i + 1))).map V.int)) :: L) H3
    refine ⟨hw _, ht _ H2 (by omega) (by omega) q.tl _ ?_⟩
    rw [rgI_snoc, fm_snoc]
    by_cases hp : p (lo + (i : Int))
    · rw [decide_eq_true hp, if_pos hp]
      refine he _ H2 (by omega) (by omega) hp q.tl _ ⟨_, q.mem 0 rfl, sz2 (by rw [List.length_map]; exact Nat.lt_of_le_of_lt (fm_le ..) (by rw [rgI_len]; omega)), ?_⟩
      rw [List.map_append]
      exact q.wr 0 _ rfl
    · rw [decide_eq_false hp, if_neg hp, List.append_nil]
      exact q) (fun H' q => k D H' q)⟩
/-! insert -/
abbrev rInsert : V → List V → Hp → VK → Prop := fun x vs H Q => ∃ (l : Addr) (xs : List V) (i : Int) (y : V), x = .ref l ∧ vs = [.int i, y] ∧ H l = some (.lst xs) ∧ xs.length < sizeLine ∧ 0 ≤ i ∧ i < 2 ^ 63 ∧
    Q .non (upd H l (.lst (xs.take i.toNat ++ [y] ++ xs.drop i.toNat)))
def insI (xs : List Int) (i n : Int) : List Int := xs.take i.toNat ++ [n] ++ xs.drop i.toNat
theorem s_insI {l : Addr} {xs : List Int} {n i : Int} (hl : H l = some (.lst (xs.map V.int))) (ha : Val ta σ H (.ref l)) (hi : Val tb σ H (.int i)) (h : Val te σ H (.int n)) (hz : xs.length < 1000000) (h0 : 0 ≤ i) (h1 : i < 2 ^ 62) (k : tz D σ (upd H l (.lst ((insI xs i n).map V.int)))) :
    tSeq (tDrop (tBM K "list" rInsert ta (tCons tb (tCons te tNil)))) tz D σ H := ha _ ⟨Or.inl ⟨rfl, xs.map V.int, SqL.of hl⟩, hi _ (h _ ⟨l, xs.map V.int, i, .int n, rfl, rfl, hl, by rw [List.length_map]; exact sz2 hz, h0, by omega, by
      show tz D σ (upd H l (.lst ((xs.map V.int).take i.toNat ++ [V.int n] ++ (xs.map V.int).drop i.toNat)))
      rw [insI, List.map_append, List.map_append, List.map_take, List.map_drop] at k; exact k⟩)⟩
/-! slices -/
def VP (tp : TO) (σ : L2.St) (H : Hp) (o : Option Int) : Prop := ∀ Q : Option Int → Hp → Prop, Q o H → tp σ H Q
theorem vp0 : VP tNoPart σ H none := fun _ q => q
theorem vp1 {i : Int} (h : Val te σ H (.int i)) : VP (tPart te) σ H (some i) := fun Q q => h _ ⟨i, rfl, q⟩
def cutN (a : List Nat) (lo hi : Int) : List Nat := (a.drop lo.toNat).take (hi.toNat - lo.toNat)
def cutI (a : List Int) (lo hi : Int) : List Int := (a.drop lo.toNat).take (hi.toNat - lo.toNat)
def pLo : Option Int → Int := fun o => o.getD 0
def pHi (n : Nat) : Option Int → Int := fun o => o.getD n
theorem sIx_lo {n : Nat} {o : Option Int} (h0 : 0 ≤ pLo o) (h1 : pLo o ≤ (n : Int)) : HT.sIx n 0 o = (pLo o).toNat := by
  cases o with
  | none => rfl
  | some i =>
    show (if i < 0 then (i + (n : Int)).toNat else min i.toNat n) = i.toNat
    have h0' : 0 ≤ i := h0
    have h1' : i ≤ (n : Int) := h1
    rw [if_neg (by omega)]; omega
theorem sIx_hi {n : Nat} {o : Option Int} (h0 : 0 ≤ pHi n o) (h1 : pHi n o ≤ (n : Int)) : HT.sIx n n o = (pHi n o).toNat := by
  cases o with
  | none => show n = ((n : Nat) : Int).toNat; omega
  | some i =>
    show (if i < 0 then (i + (n : Int)).toNat else min i.toNat n) = i.toNat
    have h0' : 0 ≤ i := h0
    have h1' : i ≤ (n : Int) := h1
    rw [if_neg (by omega)]; omega
theorem cutS_sO {a : List Nat} {lo hi : Option Int} (h0 : 0 ≤ pLo lo) (h1 : pLo lo ≤ (a.length : Int)) (h2 : 0 ≤ pHi a.length hi) (h3 : pHi a.length hi ≤ (a.length : Int)) : cutS (sO a) lo hi = sO (cutN a (pLo lo) (pHi a.length hi)) := by
  unfold cutS cutN
  rw [sO_len, sIx_lo h0 h1, sIx_hi h2 h3]
  rfl
theorem cutV_ints {a : List Int} {lo hi : Option Int} (h0 : 0 ≤ pLo lo) (h1 : pLo lo ≤ (a.length : Int)) (h2 : 0 ≤ pHi a.length hi) (h3 : pHi a.length hi ≤ (a.length : Int)) : cutV (a.map V.int) lo hi = (cutI a (pLo lo) (pHi a.length hi)).map V.int := by
  unfold cutV cutI
  rw [List.length_map, sIx_lo h0 h1, sIx_hi h2 h3, List.map_take, List.map_drop]
theorem vslS {tl th : TO} {a : List Nat} {lo hi : Option Int} (ha : Val te σ H (.str (sO a))) (hl : VP tl σ H lo) (hh : VP th σ H hi) (hs : a.length ≤ 1000000) (h0 : 0 ≤ pLo lo) (h1 : pLo lo ≤ (a.length : Int)) (h2 : 0 ≤ pHi a.length hi) (h3 : pHi a.length hi ≤ (a.length : Int)) :
    Val (tSl rSlS te tl th) σ H (.str (sO (cutN a (pLo lo) (pHi a.length hi)))) := fun Q q => ha _ (hl _ (hh _ ⟨sO a, rfl, by rw [sO_len]; exact sz1 hs, by rw [cutS_sO h0 h1 h2 h3]; exact q⟩))
theorem r_slL {a : Addr} {xs : List Int} {lo hi : Option Int} {Q : VK} (hq : SqL K H a (xs.map V.int)) (h0 : 0 ≤ pLo lo) (h1 : pLo lo ≤ (xs.length : Int)) (h2 : 0 ≤ pHi xs.length hi) (h3 : pHi xs.length hi ≤ (xs.length : Int))
    (k : ∀ p, H p = none → Q (.ref p) (upd H p (.lst ((cutI xs (pLo lo) (pHi xs.length hi)).map V.int)))) : rSlL K (.ref a) lo hi H Q := ⟨a, _, rfl, hq, fun p np => by rw [cutV_ints h0 h1 h2 h3]; exact k p np⟩
end
end G
namespace G
open PySem PySem.Spec PyProof.Rows L2
theorem vin {K : PySem.W.Frag} {σ : L2.St} {H : Hp} {ta tb : TE} {ns : List Int} {i : Int} {p : Addr} (h : SqL K H p (ns.map V.int) ∨ SqT K H p (ns.map V.int)) (ha : Val ta σ H (.int i)) (hb : Val tb σ H (.ref p)) : Val (tOp (rIn K false) ta tb) σ H (.bl (decide (i ∈ ns))) := fun _ q => ha _ (hb _ (r_in h q))
theorem r_eqI {H : Hp} {a b : Int} {Q : VK} (k : Q (.bl (decide (a = b))) H) : rEq (.int a) (.int b) H Q := ⟨rfl, by rw [dec_eq_V V.int (fun _ _ e => V.int.inj e)]; exact k⟩
theorem r_neI {H : Hp} {a b : Int} {Q : VK} (k : Q (.bl (decide (a ≠ b))) H) : rNe (.int a) (.int b) H Q := ⟨rfl, by rw [dec_eq_V V.int (fun _ _ e => V.int.inj e), dec_not]; exact k⟩
theorem vnin {K : PySem.W.Frag} {σ : L2.St} {H : Hp} {ta tb : TE} {ns : List Int} {i : Int} {p : Addr} (h : SqL K H p (ns.map V.int) ∨ SqT K H p (ns.map V.int)) (ha : Val ta σ H (.int i)) (hb : Val tb σ H (.ref p)) : Val (tOp (rIn K true) ta tb) σ H (.bl (decide (¬ (i ∈ ns)))) := fun _ q => ha _ (hb _ (r_notin h q))
end G

local macro_rules | `(tactic| walk_at "side2") => `(tactic| first | (simp [G.cutN, G.rgI_len]; done) | (simp [G.cutN, G.rgI_len]; omega))
/-! ### reversed lists, list + list, any of ints, equality of lists of ints, defs with defaults -/
namespace G
open PySem PySem.Spec PyProof.Rows L2
section
variable {K : PySem.W.Frag} {σ σ' : L2.St} {H : Hp} {ta tb te : TE} {tz tu : TS} {D : Ends}
theorem s_forV {a : Addr} {xs : List V} {n : Nat} (h : Val te σ H (.ref a)) (hx : SqL K H a xs) (Pv : Nat → L2.St → Hp → Prop) (h0 : Pv 0 σ H) (hl : ∀ i σ' H', i ≤ xs.length → Pv i σ' H' → SqL K H' a xs)
    (hs : ∀ i x σ' H', i < xs.length → xs[xs.length - 1 - i]? = some x → Pv i σ' H' → tu { D with nx := Pv (i + 1), ct := Pv (i + 1), bk := tz D } (σ'.set n (some x)) H') (hd : ∀ σ' H', Pv xs.length σ' H' → tz D σ' H') : tSeq (tFor (RT.iRevA K te) (gName n) tu) tz D σ H :=
  h _ ⟨a, xs, rfl, .inl ⟨hx, for_it walk_rev Pv h0 hl (fun i x σ1 H1 H2 hi p y => by
    obtain ⟨rfl, y⟩ := y
    exact hs i x σ1 H2 hi y p) hd⟩⟩
theorem c_cat {l b : Addr} {xs zs : List V} {Q : VK} (hl : H l = some (.lst xs)) (hb : H b = some (.lst zs)) (hz : xs.length + zs.length ≤ 1000000) (k : ∀ p, H p = none → Q (.ref p) (upd H p (.lst (xs ++ zs)))) : rCat (.ref l) (.ref b) H Q := ⟨l, b, xs, zs, rfl, rfl, hl, hb, sz1 hz, k⟩
theorem truth_ints {prog : Program} {w : World} {A : Around} {ns : List Int} {its : List Value} (e : IntsAre its ns) :
    TruthOf prog w A (fun i v => its.toArray[i]? = some v) (fun i => ns.getD i 0 != 0) := fun i v s Q E hv hq => by
  have hv' : its[i]? = some v := by simpa using hv
  have : ∃ n t, v = .int n t ∧ ns[i]? = some n := by
    clear hq hv
    induction e generalizing i with
    | nil => cases hv'
    | cons n t h ih =>
      cases i with
      | zero => exact ⟨n, t, (Option.some.inj hv').symm, rfl⟩
      | succ j => exact ih j hv'
  obtain ⟨n, t, rfl, hn⟩ := this
  have hg : ns.getD i 0 = n := by rw [List.getD_eq_getElem?_getD, hn] <;> rfl
  have hq' : Q (ns.getD i 0 != 0) s := hq
  rw [hg] at hq'
  exact PyProof.Rows.truthy_int hq'
def anyN (ns : List Int) : Bool := ns.any fun n => n != 0
theorem any_rangeI : ∀ ns : List Int, (List.range ns.length).any (fun i => ns.getD i 0 != 0) = anyN ns
  | [] => rfl
  | b :: bs => by
    unfold anyN
    rw [List.length_cons, List.range_succ_eq_map, List.any_cons, List.any_map, List.any_cons, ← anyN, ← any_rangeI bs]
    all_goals rfl
def rAnyI (K : PySem.W.Frag) : List V → Hp → VK → Prop := fun vs H Q => ∃ (a : Addr) (ns : List Int), vs = [V.ref a] ∧ SqL K H a (ns.map V.int) ∧ Q (.bl (anyN ns)) H
theorem ia_len {its : List Value} {ns : List Int} (h : IntsAre its ns) : its.length = ns.length := by
  induction h with
  | nil => rfl
  | cons n t h ih => rw [List.length_cons, List.length_cons, ih]
theorem cr_anyI {X : Cx} (hc : X.calm = true) : CallR X (.builtin "any") (rAnyI X.K) := by
  intro pins s σ H vs us Q I r h
  obtain ⟨a, ns, rfl, hs, q⟩ := h
  obtain ⟨its, rv, hl, _⟩ := I.list hs
  rw [Vals.ref1 r]
  have hb := Vals.ints rv
  refine call_any_walk (iter_any hl.isList fun s₂ e2 st hne => ?_)
  subst e2
  refine ⟨_, _, _, _, _, _, _, rfl, Walks.list (A := X.A.in1) (I.ok.hd hc) _ a hne its.toArray, st, truth_ints hb, fun h' tk hk => ?_⟩
  refine ⟨.bl _, H, I.kept fun b o eo => hk b o (fun hmem => ?_) (Heap.get?_push_of_some _ eo), ?_, q⟩
  · rcases List.mem_cons.mp hmem with e1 | hmem
    · exact absurd (e1 ▸ Heap.lt_size eo) (Nat.lt_irrefl _)
    · cases hmem
  · show Value.bool _ = Value.bool _
    rw [← any_rangeI, List.size_toArray, ia_len hb]
theorem eqvA_ints : ∀ a b : List Int, PyData.eqvAll (a.map PyData.int) (b.map PyData.int) = decide (a = b)
  | [], [] => by rw [List.map_nil, PyData.eqvAll]; rfl
  | [], _ :: _ => by rw [List.map_nil, List.map_cons, PyData.eqvAll]; rfl
  | _ :: _, [] => by rw [List.map_nil, List.map_cons, PyData.eqvAll]; rfl
  | x :: a, y :: b => by
    have e : PyData.eqv (.int x) (.int y) = (x == y) := by simp only [PyData.eqv]
    rw [List.map_cons, List.map_cons, PyData.eqvAll, e, eqvA_ints a b]
    by_cases h1 : x = y
    · by_cases h2 : a = b
      · simp [h1, h2]
      · simp [h1, h2]
    · simp [h1]
theorem eqvL_ints (a b : List Int) : PyData.eqv (.list (a.map PyData.int)) (.list (b.map PyData.int)) = decide (a = b) := by
  simp only [PyData.eqv]; exact eqvA_ints a b
theorem eqvT_ints (a b : List Int) : PyData.eqv (.tuple (a.map PyData.int)) (.tuple (b.map PyData.int)) = decide (a = b) := by
  simp only [PyData.eqv]; exact eqvA_ints a b
end
theorem okD {P : Program} {w : World} {K : PySem.W.Frag} {mg : Str → Option Value} {base : Heap} {x qual : Str} {st : Stmt} {dvs : List V} {kws : List (Str × V)} {f : Addr} {fd : FuncData} {N ps : List Str} {k : Nat} {sp : Sp} (F : FunD K x qual (defArgs st) (defBody st) (defScope st) dvs kws f fd) (S : FnScope N ps (defScope st)) (len : ∀ vs H Q E, sp vs H Q E → vs.length = ps.length)
    (hbody : ∀ (cdv : Value) (A : Around) (outer : List Env) (s : Shared) (H : Hp) (vs : List V) (Q : VK) (E : XK), Room k (A.deeper (envOfC qual (defScope st) s.heap.objs.size f cdv)) → sp vs H Q E →
      ∃ t, PSs (cxOf CX0 P w K mg base N qual (defScope st) f cdv A outer s H E).nox (defBody st) t ∧ t { nx := fun _ H' => Q .non H', rt := Q } (start N vs) H) : FnOk P w K mg base CX0 (k + 1) f fd ps sp :=
  F.ok S len fun cdv A outer s H vs Q E hr hsp => by
    obtain ⟨t, h, q⟩ := hbody cdv A outer s H vs Q E hr hsp
    exact ⟨t, h.nox, q⟩
theorem funD_mk {K : PySem.W.Frag} {x qual : Str} {st : Stmt} {dvs : List V} {its : List Value} {n : Nat} {T f : Addr} {oc tc : Value} {od an td : Option Addr} {osl tsl : Array (Option Value)} {kV doc pm cdv ct : Value} (l : K.lookup f = some ⟨oc, od, .func (PySem.W.fnOf x qual (defArgs st) (defBody st) (defScope st) (.ref T) kV doc pm an cdv ct), osl⟩)
    (c : PySem.W.codeIn K cdv qual = true) (k : PySem.W.keepIn K (.ref f) = true) (lT : K.lookup T = some ⟨tc, td, .seq its.toArray n, tsl⟩) (hd : dvs ≠ []) (hv : Vals dvs its) :
    FunD K x qual (defArgs st) (defBody st) (defScope st) dvs [] f (PySem.W.fnOf x qual (defArgs st) (defBody st) (defScope st) (.ref T) kV doc pm an cdv ct) :=
  ⟨⟨oc, od, .ref T, kV, doc, pm, an, cdv, ct, osl, rfl, l, c, .inr ⟨hd, T, _, its, n, rfl, lT, rfl, hv⟩, .inl rfl⟩, k⟩
theorem c_prop {C : Addr} {sp : Sp} {dvs : List V} {E : XK} {ta : TE} {σ : L2.St} {H : Hp} {a dx : Addr} {fs : List (Str × V)} {Q : VK} (h : Val ta σ H (.ref a)) (ho : H a = some (.ins C dx fs)) (k : sp (.ref a :: dvs) H Q E) : tProp C sp dvs E ta σ H Q := h _ ⟨a, dx, fs, rfl, ho, k⟩
end G
namespace G
open PySem PySem.Spec PyProof.Rows L2
theorem shp_intsT (ns : List Int) : SeqAt.shaped (.tuple (ns.map PyData.int)) = true := by
  unfold SeqAt.shaped
  refine Bool.and_eq_true_iff.mpr ⟨lay_ints ns, decide_eq_true ?_⟩
  have := dep_ints ns
  show _ ≤ 64
  simp only [PyData.depth]
  omega
theorem c_makeN {C : Addr} {n m : Nat} {sp : Sp} {gV : List V → List V → List V} {E : XK} {t tk : TA} {σ : L2.St} {H : Hp} {Q : VK} (k : t σ H fun vs H1 => tk σ H1 fun zs H2 => vs.length = n ∧ zs.length = m ∧
  ∀ x dx, H2 x = none → H2 dx = none → dx ≠ x → sp (gV (.ref x :: vs) zs) (upd (upd H2 dx (.own x)) x (.ins C dx [])) (fun v H3 => v = .non ∧ Q (.ref x) H3) E) : tMakeN C n m sp gV E t tk σ H Q := k
end G
local macro_rules | `(tactic| walk_at "shp") => `(tactic| first | exact G.shp_ints _ | exact G.shp_intsT _)
namespace G
open PySem PySem.Spec PyProof.Rows L2
theorem c_andW {F : List Addr} {B H : Hp} {L : List (Addr × HO)} {σ : L2.St} {ta tb : TE} {p q : Prop} [Decidable p] [Decidable q] {Q : VK} (s : Hs F B L H) (ha : ∀ Q : VK, (∀ H', Hs F B L H' → Q (.bl (decide p)) H') → ta σ H Q) (hb : ∀ H', Hs F B L H' → p → ∀ Q : VK, (∀ H'', Hs F B L H'' → Q (.bl (decide q)) H'') → tb σ H' Q)
    (k : ∀ H', Hs F B L H' → Q (.bl (decide (p ∧ q))) H') : tAndV ta tb σ H Q := ha _ fun H1 s1 => ⟨_, rfl, by
  by_cases hp : p
  · rw [decide_eq_true hp]
    refine hb H1 s1 hp Q fun H' h => ?_
    rw [show decide q = decide (p ∧ q) from by simp [hp]]; exact k H' h
  · rw [decide_eq_false hp]
    have := k H1 s1
    rw [show decide (p ∧ q) = false from by simp [hp]] at this; exact this⟩
theorem c_orW {F : List Addr} {B H : Hp} {L : List (Addr × HO)} {σ : L2.St} {ta tb : TE} {p q : Prop} [Decidable p] [Decidable q] {Q : VK} (s : Hs F B L H) (ha : ∀ Q : VK, (∀ H', Hs F B L H' → Q (.bl (decide p)) H') → ta σ H Q) (hb : ∀ H', Hs F B L H' → ¬ p → ∀ Q : VK, (∀ H'', Hs F B L H'' → Q (.bl (decide q)) H'') → tb σ H' Q)
    (k : ∀ H', Hs F B L H' → Q (.bl (decide (p ∨ q))) H') : tOrV ta tb σ H Q := ha _ fun H1 s1 => ⟨_, rfl, by
  by_cases hp : p
  · rw [decide_eq_true hp]
    have := k H1 s1
    rw [show decide (p ∨ q) = true from by simp [hp]] at this; exact this
  · rw [decide_eq_false hp]
    refine hb H1 s1 hp Q fun H' h => ?_
    rw [show decide q = decide (p ∨ q) from by simp [hp]]; exact k H' h⟩
def UnrL (tu : TS) (D : Ends) (tz : TS) (j : Nat) (lo : Int) : Nat → Nat → L2.St → Hp → Prop
  | 0, _, σ, H => tz D σ H
  | m + 1, i, σ, H => tu { D with nx := UnrL tu D tz j lo m (i + 1), ct := UnrL tu D tz j lo m (i + 1), bk := tz D } (σ.set j (some (.int (lo + (i : Int))))) H
theorem s_unrR2 {tr : TA} {tu tz : TS} {D : Ends} {σ : L2.St} {H : Hp} {n j : Nat} {lo m : Int} (h : VA tr σ H [.int lo, .int m]) (hn : (m - lo).toNat = n) (h1 : -1000 ≤ lo ∧ lo < 1000 ∧ -1000 ≤ m ∧ m < 1000) (_ : n < 2000) (k : UnrL tu D tz j lo n 0 σ H) : tSeq (tFor (iRng2 tr) (gName j) tu) tz D σ H :=
  s_forR2 h ⟨by omega, by omega, by omega, by omega⟩ (fun i σ H => UnrL tu D tz j lo (n - i) i σ H) (by exact k) (fun i σ' H' hi p => by
    have e : n - i = (n - (i + 1)) + 1 := by omega
    rw [e] at p
    exact p) (fun σ' H' p => by
    rw [show n - (m - lo).toNat = 0 by omega] at p
    exact p)
theorem u_doneL {tu tz : TS} {D : Ends} {σ : L2.St} {H : Hp} {lo : Int} {j i : Nat} (k : tz D σ H) : UnrL tu D tz j lo 0 i σ H := k
theorem u_nextL {tu tz : TS} {D : Ends} {σ : L2.St} {H : Hp} {lo : Int} {j m i : Nat} (k : tu { D with nx := UnrL tu D tz j lo m (i + 1), ct := UnrL tu D tz j lo m (i + 1), bk := tz D } (σ.set j (some (.int (lo + (i : Int))))) H) : UnrL tu D tz j lo (m + 1) i σ H := k
end G
namespace G
open PySem PySem.Spec PyProof.Rows L2
def kForL (K : PySem.W.Frag) (g : TG) (tu tz : TS) (D : Ends) (σ : L2.St) : VK := fun x H1 => tSeq (tFor (iList K (tC x)) g tu) tz D σ H1
theorem c_forL {K : PySem.W.Frag} {g : TG} {tu tz : TS} {D : Ends} {σ : L2.St} {H : Hp} {te : TE} (k : te σ H (kForL K g tu tz D σ)) : tSeq (tFor (iList K te) g tu) tz D σ H := k
theorem k_forL {K : PySem.W.Frag} {g : TG} {tu tz : TS} {D : Ends} {σ : L2.St} {H : Hp} {x : V} (k : tSeq (tFor (iList K (tC x)) g tu) tz D σ H) : kForL K g tu tz D σ x H := k
end G
theorem G.cat_eq {xs ys : List L2.V} {a b : List Int} (h1 : xs = a.map L2.V.int) (h2 : ys = b.map L2.V.int) : L2.HO.lst (xs ++ ys) = L2.HO.lst ((a ++ b).map L2.V.int) := by
  rw [List.map_append, h1, h2]
namespace G
open PySem PySem.Spec PyProof.Rows L2
theorem vintP {σ : L2.St} {H : Hp} {ta : TE} {p : Prop} [Decidable p] (ha : Val ta σ H (.bl (decide p))) : Val (tCB rInt1 (tCons ta tNil)) σ H (.int (if p then 1 else 0)) := by
  have := vintb ha
  by_cases hp : p
  · rw [decide_eq_true hp] at this; rw [if_pos hp]; exact this
  · rw [decide_eq_false hp] at this; rw [if_neg hp]; exact this
end G
namespace X
open PySem PySem.Spec PyProof.Rows L2 G
def topS (i : Nat) : Stmt := PySem.Challenge.pw_segmentfs_k47_inodes_as_octets.main.body.getD i (.Pass ⟨0, 0, 0, 0⟩)
abbrev st_number_octets : Stmt := topS 1
abbrev st_number_of : Stmt := topS 2
abbrev st_Inode___init__ : Stmt := inClass (topS 8) 0
abbrev st_Inode_is_directory : Stmt := inClass (topS 8) 1
abbrev st_encode_inode : Stmt := topS 9
abbrev st_decode_inode : Stmt := topS 10
abbrev st__law_row : Stmt := topS 12
abbrev st__law_is_integer : Stmt := topS 13
abbrev st__law_is : Stmt := topS 14
abbrev st__law_fields : Stmt := topS 15
abbrev st__law_octets : Stmt := topS 16
abbrev st__law_drawn : Stmt := topS 17
abbrev st__law_reads : Stmt := topS 18
abbrev st_law : Stmt := topS 19
structure Ads where
  a_number_octets : Addr
  d_number_octets : FuncData
  a_number_of : Addr
  d_number_of : FuncData
  a_Inode___init__ : Addr
  d_Inode___init__ : FuncData
  a_Inode_is_directory : Addr
  d_Inode_is_directory : FuncData
  a_encode_inode : Addr
  d_encode_inode : FuncData
  a_decode_inode : Addr
  d_decode_inode : FuncData
  a__law_row : Addr
  d__law_row : FuncData
  a__law_is_integer : Addr
  d__law_is_integer : FuncData
  a__law_is : Addr
  d__law_is : FuncData
  a__law_fields : Addr
  d__law_fields : FuncData
  a__law_octets : Addr
  d__law_octets : FuncData
  a__law_drawn : Addr
  d__law_drawn : FuncData
  a__law_reads : Addr
  d__law_reads : FuncData
  a_law : Addr
  d_law : FuncData
  p_Inode_is_directory : Addr
  c_Inode : Addr
  t_DIRECTORY : Tok
  t_FILE : Tok
  t_INODE_OCTETS : Tok
  t_LINK : Tok
structure Txt (K : PySem.W.Frag) (mg : Str → Option Value) (A : Ads) : Prop where
  F_number_octets : Fun K "number_octets" "number_octets" st_number_octets A.a_number_octets A.d_number_octets
  b_number_octets : Binds K A.d_number_octets ["number", "count"] []
  g_number_octets : mg "number_octets" = some (.ref A.a_number_octets)
  F_number_of : Fun K "number_of" "number_of" st_number_of A.a_number_of A.d_number_of
  b_number_of : Binds K A.d_number_of ["octets"] []
  g_number_of : mg "number_of" = some (.ref A.a_number_of)
  F_Inode___init__ : FunD K "__init__" "Inode.__init__" (defArgs st_Inode___init__) (defBody st_Inode___init__) (defScope st_Inode___init__) [V.int 1, V.int 0, V.int 0, V.int 0, V.int 0] [] A.a_Inode___init__ A.d_Inode___init__
  b_Inode___init___2 : ∃ ds, Vals (List.drop 0 [V.int 1, V.int 0, V.int 0, V.int 0, V.int 0]) ds ∧ Binds K A.d_Inode___init__ ["self", "kind", "links", "size", "height", "root", "parent"] ds
  b_Inode___init___7 : ∃ ds, Vals (List.drop 5 [V.int 1, V.int 0, V.int 0, V.int 0, V.int 0]) ds ∧ Binds K A.d_Inode___init__ ["self", "kind", "links", "size", "height", "root", "parent"] ds
  kb_Inode___init___2_parent : ∃ its : List Value, KBn K A.d_Inode___init__ ["self", "kind", "links", "size", "height", "root", "parent"] 2 ["parent"] (fun us ws => us ++ (List.drop 0 its).take 1 ++ (List.drop 1 its).take 1 ++ (List.drop 2 its).take 1 ++ (List.drop 3 its).take 1 ++ (ws.drop 0).take 1) (fun us ws => us ++ (List.drop 0 [V.int 1, V.int 0, V.int 0, V.int 0, V.int 0]).take 1 ++ (List.drop 1 [V.int 1, V.int 0, V.int 0, V.int 0, V.int 0]).take 1 ++ (List.drop 2 [V.int 1, V.int 0, V.int 0, V.int 0, V.int 0]).take 1 ++ (List.drop 3 [V.int 1, V.int 0, V.int 0, V.int 0, V.int 0]).take 1 ++ (ws.drop 0).take 1)
  F_Inode_is_directory : Fun K "is_directory" "Inode.is_directory" st_Inode_is_directory A.a_Inode_is_directory A.d_Inode_is_directory
  b_Inode_is_directory : Binds K A.d_Inode_is_directory ["self"] []
  pr_Inode_is_directory : PropOf K A.c_Inode "is_directory" A.p_Inode_is_directory A.a_Inode_is_directory
  F_encode_inode : Fun K "encode_inode" "encode_inode" st_encode_inode A.a_encode_inode A.d_encode_inode
  b_encode_inode : Binds K A.d_encode_inode ["inode"] []
  g_encode_inode : mg "encode_inode" = some (.ref A.a_encode_inode)
  F_decode_inode : Fun K "decode_inode" "decode_inode" st_decode_inode A.a_decode_inode A.d_decode_inode
  b_decode_inode : Binds K A.d_decode_inode ["octets"] []
  g_decode_inode : mg "decode_inode" = some (.ref A.a_decode_inode)
  F__law_row : Fun K "_law_row" "_law_row" st__law_row A.a__law_row A.d__law_row
  b__law_row : Binds K A.d__law_row ["_law_script", "_law_k"] []
  g__law_row : mg "_law_row" = some (.ref A.a__law_row)
  F__law_is_integer : Fun K "_law_is_integer" "_law_is_integer" st__law_is_integer A.a__law_is_integer A.d__law_is_integer
  b__law_is_integer : Binds K A.d__law_is_integer ["_law_actual"] []
  g__law_is_integer : mg "_law_is_integer" = some (.ref A.a__law_is_integer)
  F__law_is : Fun K "_law_is" "_law_is" st__law_is A.a__law_is A.d__law_is
  b__law_is : Binds K A.d__law_is ["_law_actual", "_law_due"] []
  g__law_is : mg "_law_is" = some (.ref A.a__law_is)
  F__law_fields : Fun K "_law_fields" "_law_fields" st__law_fields A.a__law_fields A.d__law_fields
  b__law_fields : Binds K A.d__law_fields ["_law_inode"] []
  g__law_fields : mg "_law_fields" = some (.ref A.a__law_fields)
  F__law_octets : Fun K "_law_octets" "_law_octets" st__law_octets A.a__law_octets A.d__law_octets
  b__law_octets : Binds K A.d__law_octets ["_law_fields_here"] []
  g__law_octets : mg "_law_octets" = some (.ref A.a__law_octets)
  F__law_drawn : Fun K "_law_drawn" "_law_drawn" st__law_drawn A.a__law_drawn A.d__law_drawn
  b__law_drawn : Binds K A.d__law_drawn ["_law_script"] []
  g__law_drawn : mg "_law_drawn" = some (.ref A.a__law_drawn)
  F__law_reads : Fun K "_law_reads" "_law_reads" st__law_reads A.a__law_reads A.d__law_reads
  b__law_reads : Binds K A.d__law_reads ["_law_octets_here"] []
  g__law_reads : mg "_law_reads" = some (.ref A.a__law_reads)
  F_law : Fun K "law" "law" st_law A.a_law A.d_law
  b_law : Binds K A.d_law ["_law_script"] []
  g_law : mg "law" = some (.ref A.a_law)
  g_Inode : mg "Inode" = some (.ref A.c_Inode)
  cl_Inode : Cls K A.c_Inode
  mk_Inode : Mk K A.c_Inode A.a_Inode___init__
  na_Inode_height : NoAttr K A.c_Inode "height"
  na_Inode_kind : NoAttr K A.c_Inode "kind"
  na_Inode_links : NoAttr K A.c_Inode "links"
  na_Inode_parent : NoAttr K A.c_Inode "parent"
  na_Inode_root : NoAttr K A.c_Inode "root"
  na_Inode_size : NoAttr K A.c_Inode "size"
  k_DIRECTORY : mg "DIRECTORY" = some (.int 2 A.t_DIRECTORY)
  k_FILE : mg "FILE" = some (.int 1 A.t_FILE)
  k_INODE_OCTETS : mg "INODE_OCTETS" = some (.int 16 A.t_INODE_OCTETS)
  k_LINK : mg "LINK" = some (.int 3 A.t_LINK)
  z_any : mg "any" = none
  z_bool : mg "bool" = none
  z_int : mg "int" = none
  z_isinstance : mg "isinstance" = none
  z_len : mg "len" = none
  z_list : mg "list" = none
  z_min : mg "min" = none
  z_range : mg "range" = none
  z_reversed : mg "reversed" = none
theorem sc_number_octets : FnScope ["number", "count", "found", "_"] ["number", "count"] (defScope st_number_octets) := ⟨rfl, rfl, rfl, by decide +kernel, rfl, by decide +kernel, by decide +kernel⟩
theorem sc_number_of : FnScope ["octets", "total", "octet"] ["octets"] (defScope st_number_of) := ⟨rfl, rfl, rfl, by decide +kernel, rfl, by decide +kernel, by decide +kernel⟩
theorem sc_Inode___init__ : FnScope ["self", "kind", "links", "size", "height", "root", "parent"] ["self", "kind", "links", "size", "height", "root", "parent"] (defScope st_Inode___init__) := ⟨rfl, rfl, rfl, by decide +kernel, rfl, by decide +kernel, by decide +kernel⟩
theorem sc_Inode_is_directory : FnScope ["self"] ["self"] (defScope st_Inode_is_directory) := ⟨rfl, rfl, rfl, by decide +kernel, rfl, by decide +kernel, by decide +kernel⟩
theorem sc_encode_inode : FnScope ["inode", "octets"] ["inode"] (defScope st_encode_inode) := ⟨rfl, rfl, rfl, by decide +kernel, rfl, by decide +kernel, by decide +kernel⟩
theorem sc_decode_inode : FnScope ["octets", "links", "size"] ["octets"] (defScope st_decode_inode) := ⟨rfl, rfl, rfl, by decide +kernel, rfl, by decide +kernel, by decide +kernel⟩
theorem sc__law_row : FnScope ["_law_script", "_law_k", "_law_cell", "_law_low", "_law_high"] ["_law_script", "_law_k"] (defScope st__law_row) := ⟨rfl, rfl, rfl, by decide +kernel, rfl, by decide +kernel, by decide +kernel⟩
theorem sc__law_is_integer : FnScope ["_law_actual"] ["_law_actual"] (defScope st__law_is_integer) := ⟨rfl, rfl, rfl, by decide +kernel, rfl, by decide +kernel, by decide +kernel⟩
theorem sc__law_is : FnScope ["_law_actual", "_law_due"] ["_law_actual", "_law_due"] (defScope st__law_is) := ⟨rfl, rfl, rfl, by decide +kernel, rfl, by decide +kernel, by decide +kernel⟩
theorem sc__law_fields : FnScope ["_law_inode"] ["_law_inode"] (defScope st__law_fields) := ⟨rfl, rfl, rfl, by decide +kernel, rfl, by decide +kernel, by decide +kernel⟩
theorem sc__law_octets : FnScope ["_law_fields_here", "_law_octets_here", "_law_widths", "_law_k", "_law_rest", "_law_j"] ["_law_fields_here"] (defScope st__law_octets) := ⟨rfl, rfl, rfl, by decide +kernel, rfl, by decide +kernel, by decide +kernel⟩
theorem sc__law_drawn : FnScope ["_law_script", "_law_number", "_law_fields_here", "_law_bounds", "_law_k", "_law_bound", "_law_found"] ["_law_script"] (defScope st__law_drawn) := ⟨rfl, rfl, rfl, by decide +kernel, rfl, by decide +kernel, by decide +kernel⟩
theorem sc__law_reads : FnScope ["_law_octets_here", "_law_passed", "_law_inode", "_law_good", "_law_value"] ["_law_octets_here"] (defScope st__law_reads) := ⟨rfl, rfl, rfl, by decide +kernel, rfl, by decide +kernel, by decide +kernel⟩
theorem sc_law : FnScope ["_law_script", "_law_fields_here", "_law_inode", "_law_octets_here", "_law_back", "_law_number", "_law_at", "_law_rest", "_law_k"] ["_law_script"] (defScope st_law) := ⟨rfl, rfl, rfl, by decide +kernel, rfl, by decide +kernel, by decide +kernel⟩

/-! ### mathematics of the law's helpers -/
def rwC0 (ns : List Int) (k : Int) : Int := if (ns.length : Int) > 0 then gi ns (k % (ns.length : Int)) else k
def rwC (ns : List Int) (k : Int) : Int := if rwC0 ns k < 0 then (-2) * rwC0 ns k - 1 else rwC0 ns k
def rwL (ns : List Int) (k : Int) : Int := (rwC ns k * 48271 + k * 69621 + 11) % 2147483647
def rwH (ns : List Int) (k : Int) : Int := (rwL ns k * 40692 + rwC ns k + k * 16807 + 5) % 2147483399
def rwM (ns : List Int) (k : Int) : Int := (rwL ns k * 69621 + rwH ns k * 7 + k) % 2147483647
def rowG (ns : List Int) (k : Int) : Int := if k < (ns.length : Int) ∧ rwC ns k ≥ 1000000000 then rwC ns k else rwH ns k * 2147483647 + rwM ns k
theorem rowG_nn (ns : List Int) (k : Int) : 0 ≤ rowG ns k := by
  unfold rowG
  split
  · omega
  · have h1 : 0 ≤ rwH ns k := Int.emod_nonneg _ (by decide)
    have h2 : 0 ≤ rwM ns k := Int.emod_nonneg _ (by decide)
    omega

def dvN (n : Int) : Nat → Int
  | 0 => n
  | k + 1 => dvN n k / 256
def octN (n : Int) : Nat → List Int
  | 0 => []
  | k + 1 => octN n k ++ [dvN n k % 256]
def octI (n m : Int) : List Int := octN n m.toNat
theorem octN_len (n : Int) (k : Nat) : (octN n k).length = k := by
  induction k with
  | zero => rfl
  | succ k ih => rw [octN, List.length_append, ih]; rfl
local macro_rules | `(tactic| walk_at "side2") => `(tactic| first | (simp [X.octI, X.octN_len]; done) | (simp [X.octI, X.octN_len]; omega))
def valN : List Int → Int
  | [] => 0
  | o :: r => valN r * 256 + o
theorem val_step {ns : List Int} {i : Nat} {n : Int} (hl : i < (ns.map V.int).length) (h : ns[(ns.map V.int).length - 1 - i]? = some n) : valN (ns.drop (ns.length - (i + 1))) = valN (ns.drop (ns.length - i)) * 256 + n := by
  rw [List.length_map] at hl h
  have e : ns.length - (i + 1) = ns.length - 1 - i := by omega
  have e2 : ns.length - i = (ns.length - 1 - i) + 1 := by omega
  obtain ⟨hlt, hn⟩ := List.getElem?_eq_some_iff.mp h
  rw [e, e2, List.drop_eq_getElem_cons hlt, hn]
  rfl

def encN (ik il iz ih ir ip : Int) : List Int := (((((([ik] ++ octI il 2) ++ octI iz 4) ++ [ih]) ++ octI ir 2) ++ octI ip 2) ++ [0, 0, 0, 0])
def InoG (ns : List Int) : Prop := (gi ns 0 = 1 ∨ gi ns 0 = 2 ∨ gi ns 0 = 3) ∧ anyN (cutI ns 12 16) = false
instance (ns : List Int) : Decidable (InoG ns) := by unfold InoG; infer_instance
def InoF (fa fb fc fd fe ff : Int) : Prop := (1 ≤ fa ∧ fa ≤ 3) ∧ (0 ≤ fb ∧ fb < 65536) ∧ (0 ≤ fc ∧ fc < 4294967296) ∧ (0 ≤ fd ∧ fd < 256) ∧ (0 ≤ fe ∧ fe < 65536) ∧ (0 ≤ ff ∧ ff < 65536)
theorem any4 (a b c d : Int) : anyN [a, b, c, d] = false ↔ (a = 0 ∧ b = 0 ∧ c = 0 ∧ d = 0) := by
  unfold anyN
  simp
theorem inoG_iff {ns : List Int} (hl : ns.length = 16) : InoG ns ↔ (gi ns 0 ∈ ([1, 2, 3] : List Int) ∧ cutI ns 12 (ns.length : Int) = ([0, 0, 0, 0] : List Int)) := by
  match ns, hl with
  | [a0, a1, a2, a3, a4, a5, a6, a7, a8, a9, a10, a11, a12, a13, a14, a15], _ =>
    have e : (gi [a0, a1, a2, a3, a4, a5, a6, a7, a8, a9, a10, a11, a12, a13, a14, a15] 0 ∈ ([1, 2, 3] : List Int)) ↔ (a0 = 1 ∨ a0 = 2 ∨ a0 = 3) := by
      show a0 ∈ ([1, 2, 3] : List Int) ↔ _
      simp
    have e2 : (cutI [a0, a1, a2, a3, a4, a5, a6, a7, a8, a9, a10, a11, a12, a13, a14, a15] 12 ([a0, a1, a2, a3, a4, a5, a6, a7, a8, a9, a10, a11, a12, a13, a14, a15].length : Int) = ([0, 0, 0, 0] : List Int)) ↔ (a12 = 0 ∧ a13 = 0 ∧ a14 = 0 ∧ a15 = 0) := by
      show [a12, a13, a14, a15] = ([0, 0, 0, 0] : List Int) ↔ _
      simp
    rw [e, e2]
    show (a0 = 1 ∨ a0 = 2 ∨ a0 = 3) ∧ anyN [a12, a13, a14, a15] = false ↔ _
    rw [any4]
theorem enc_dec {ns : List Int} (hl : ns.length = 16) (hb : ∀ o ∈ ns, 0 ≤ o ∧ o < 256) (hg : InoG ns) : encN (gi ns 0) (valN (cutI ns 1 3)) (valN (cutI ns 3 7)) (gi ns 7) (valN (cutI ns 8 10)) (valN (cutI ns 10 12)) = ns := by
  match ns, hl with
  | [a0, a1, a2, a3, a4, a5, a6, a7, a8, a9, a10, a11, a12, a13, a14, a15], _ =>
    have h2 : anyN [a12, a13, a14, a15] = false := hg.2
    rw [any4] at h2
    obtain ⟨z1, z2, z3, z4⟩ := h2
    have b1 := hb a1 (by simp)
    have b2 := hb a2 (by simp)
    have b3 := hb a3 (by simp)
    have b4 := hb a4 (by simp)
    have b5 := hb a5 (by simp)
    have b6 := hb a6 (by simp)
    have b8 := hb a8 (by simp)
    have b9 := hb a9 (by simp)
    have b10 := hb a10 (by simp)
    have b11 := hb a11 (by simp)
    have two : ∀ x y : Int, 0 ≤ x → x < 256 → 0 ≤ y → y < 256 → ((0 * 256 + y) * 256 + x) % 256 = x ∧ ((0 * 256 + y) * 256 + x) / 256 % 256 = y := fun x y _ _ _ _ => by omega
    have t1 := two a1 a2 b1.1 b1.2 b2.1 b2.2
    have t2 := two a8 a9 b8.1 b8.2 b9.1 b9.2
    have t3 := two a10 a11 b10.1 b10.2 b11.1 b11.2
    have q : ((((0 * 256 + a6) * 256 + a5) * 256 + a4) * 256 + a3) % 256 = a3 ∧ ((((0 * 256 + a6) * 256 + a5) * 256 + a4) * 256 + a3) / 256 % 256 = a4 ∧ ((((0 * 256 + a6) * 256 + a5) * 256 + a4) * 256 + a3) / 256 / 256 % 256 = a5 ∧ ((((0 * 256 + a6) * 256 + a5) * 256 + a4) * 256 + a3) / 256 / 256 / 256 % 256 = a6 := by omega
    show [a0, ((0 * 256 + a2) * 256 + a1) % 256, ((0 * 256 + a2) * 256 + a1) / 256 % 256, ((((0 * 256 + a6) * 256 + a5) * 256 + a4) * 256 + a3) % 256, ((((0 * 256 + a6) * 256 + a5) * 256 + a4) * 256 + a3) / 256 % 256, ((((0 * 256 + a6) * 256 + a5) * 256 + a4) * 256 + a3) / 256 / 256 % 256, ((((0 * 256 + a6) * 256 + a5) * 256 + a4) * 256 + a3) / 256 / 256 / 256 % 256, a7, ((0 * 256 + a9) * 256 + a8) % 256, ((0 * 256 + a9) * 256 + a8) / 256 % 256, ((0 * 256 + a11) * 256 + a10) % 256, ((0 * 256 + a11) * 256 + a10) / 256 % 256, 0, 0, 0, 0] = [a0, a1, a2, a3, a4, a5, a6, a7, a8, a9, a10, a11, a12, a13, a14, a15]
    rw [t1.1, t1.2, t2.1, t2.2, t3.1, t3.2, q.1, q.2.1, q.2.2.1, q.2.2.2, z1, z2, z3, z4]
theorem encN_len {fa fb fc fd fe ff : Int} : (encN fa fb fc fd fe ff).length = 16 := rfl
local macro_rules | `(tactic| walk_at "side2") => `(tactic| first | (simp [X.encN_len]; done) | (simp [X.encN_len]; omega))
theorem dec_enc {fa fb fc fd fe ff : Int} (h : InoF fa fb fc fd fe ff) : [gi (encN fa fb fc fd fe ff) 0, valN (cutI (encN fa fb fc fd fe ff) 1 3), valN (cutI (encN fa fb fc fd fe ff) 3 7), gi (encN fa fb fc fd fe ff) 7, valN (cutI (encN fa fb fc fd fe ff) 8 10), valN (cutI (encN fa fb fc fd fe ff) 10 12)] = [fa, fb, fc, fd, fe, ff] := by
  obtain ⟨-, h2, h3, -, h5, h6⟩ := h
  have two : ∀ x : Int, 0 ≤ x → x < 65536 → ((0 : Int) * 256 + x / 256 % 256) * 256 + x % 256 = x := fun x _ _ => by omega
  have four : (((0 * 256 + fc / 256 / 256 / 256 % 256) * 256 + fc / 256 / 256 % 256) * 256 + fc / 256 % 256) * 256 + fc % 256 = fc := by omega
  show [fa, (0 * 256 + fb / 256 % 256) * 256 + fb % 256, (((0 * 256 + fc / 256 / 256 / 256 % 256) * 256 + fc / 256 / 256 % 256) * 256 + fc / 256 % 256) * 256 + fc % 256, fd, (0 * 256 + fe / 256 % 256) * 256 + fe % 256, (0 * 256 + ff / 256 % 256) * 256 + ff % 256] = [fa, fb, fc, fd, fe, ff]
  rw [two fb h2.1 h2.2, two fe h5.1 h5.2, two ff h6.1 h6.2, four]
theorem ino_enc {fa fb fc fd fe ff : Int} (h : InoF fa fb fc fd fe ff) : InoG (encN fa fb fc fd fe ff) := by
  refine ⟨?_, rfl⟩
  show fa = 1 ∨ fa = 2 ∨ fa = 3
  have := h.1; omega
theorem enc_bd {fa fb fc fd fe ff : Int} (h : InoF fa fb fc fd fe ff) : ∀ o ∈ encN fa fb fc fd fe ff, 0 ≤ o ∧ o < 256 := by
  have hm : ∀ x : Int, 0 ≤ x % 256 ∧ x % 256 < 256 := fun x => by omega
  intro o ho
  have he : encN fa fb fc fd fe ff = [fa, fb % 256, fb / 256 % 256, fc % 256, fc / 256 % 256, fc / 256 / 256 % 256, fc / 256 / 256 / 256 % 256, fd, fe % 256, fe / 256 % 256, ff % 256, ff / 256 % 256, 0, 0, 0, 0] := rfl
  rw [he] at ho
  have h1 := h.1
  have h2 := h.2.2.2.1
  simp only [List.mem_cons, List.not_mem_nil, or_false] at ho
  rcases ho with e | e | e | e | e | e | e | e | e | e | e | e | e | e | e | e <;> rw [e] <;> first | exact hm _ | omega
theorem rep0_bd : ∀ o ∈ List.replicate (16 : Int).toNat (0 : Int), 0 ≤ o ∧ o < 256 := by decide
theorem set_bd {t : List Int} {i : Nat} {v : Int} (h : ∀ q ∈ t, 0 ≤ q ∧ q < 256) (h0 : 0 ≤ v) (h1 : v < 256) : ∀ q ∈ t.set i v, 0 ≤ q ∧ q < 256 := fun q hq => by
  rcases List.mem_or_eq_of_mem_set hq with z | z
  · exact h q z
  · rw [z]; exact ⟨h0, h1⟩
theorem app_bd {t : List Int} {v : Int} (h : ∀ q ∈ t, 0 ≤ q ∧ q < 256) (h0 : 0 ≤ v) (h1 : v < 256) : ∀ q ∈ t ++ [v], 0 ≤ q ∧ q < 256 := fun q hq => by
  rcases List.mem_append.mp hq with z | z
  · exact h q z
  · rw [List.mem_singleton.mp z]; exact ⟨h0, h1⟩
theorem encL_eq {fa fb fc fd fe ff : Int} (h : InoF fa fb fc fd fe ff) : [fa, fb % 256, fb / 256 % 256, fc % 256, fc / 256 % 256, fc / 256 / 256 % 256, fc / 256 / 256 / 256 % 256, fd % 256, fe % 256, fe / 256 % 256, ff % 256, ff / 256 % 256, 0, 0, 0, 0] = encN fa fb fc fd fe ff := by
  obtain ⟨-, -, -, h, -, -⟩ := h
  rw [Int.emod_eq_of_lt h.1 h.2]; rfl

section
variable {P : Program} {w : World} {K : PySem.W.Frag} {mg : Str → Option Value} {base : Heap} {A : Ads}
def sp_number_octets (K : PySem.W.Frag) (A : Ads) : Sp := fun vs H Q _ => ∃ (n m : Int), vs = [V.int n, V.int m] ∧ (0 ≤ m) ∧ (m ≤ 1000) ∧ ∀ (p : Addr) (H' : Hp), Hs [] H [(p, .lst ((octI n m).map V.int))] H' → Q (V.ref p) H'
theorem ok_number_octets (T : Txt K mg A) : FnOk P w K mg base CX0 1 A.a_number_octets A.d_number_octets ["number", "count"] (sp_number_octets K A) := by
  refine T.F_number_octets.ok sc_number_octets (fun vs H Q E h => ?_) (fun cdv A' outer s H vs Q E hRm h => ?_)
  · obtain ⟨n, m, rfl, _⟩ := h
    rfl
  · obtain ⟨n, m, rfl, h0, h1, kq⟩ := h
    have hUn := hu_of hRm
    have s0 : Hs [] H [] H := Hs.start H
    refine ⟨_, (pss_cons (ps_set (i := 2) sc_number_octets.nd rfl (.inl rfl) (pe_lst pa_nil)) (pss_cons (ps_for PassesOwn.never rfl (pi_range1 rfl T.z_range (pa_cons (pv 1) pa_nil)) (pg_name (i := 3) sc_number_octets.nd rfl (.inl rfl)) (pss_cons (ps_expr (pe_bm PySem.F.plainAttrs_list PySem.F.slot_list_append PySem.F.type_list_append mt_append (pv 2) (pa_cons (pe_op op_mod (pv 0) pe_int) pa_nil))) (pss_cons (ps_set (i := 0) sc_number_octets.nd rfl (.inl rfl) (pe_op op_fdiv (pv 0) pe_int)) pss_nil))) (pss_cons (ps_ret (pv 2)) pss_nil))), ?_⟩
    refine c_sig [some (V.int n), some (V.int m), none, none] rfl ?_
    refine c_set ?_
    refine c_lst ?_
    refine c_nil ?_
    refine ⟨sz1 (by show 0 ≤ 1000000; decide), fun p1 np1 => ?_⟩
    have s2 : Hs [] H [(p1, .lst ([]))] _ := s0.new np1 (.lst ([]))
    refine k_set [some (V.int n), some (V.int m), some (V.ref p1), none] rfl ?_
    refine s_forR1 (va (vv 1 rfl) va0) ⟨by walk_at "side", by walk_at "side"⟩ (fun i3 σ' H' => ∃ (y__ : Option V) (ws : List Int) (nw : Int), σ' = [some (V.int nw), some (V.int m), some (V.ref p1), y__] ∧ Hs [] H [(p1, .lst (ws.map V.int))] H' ∧ (ws = octN n i3) ∧ (nw = dvN n i3)) ?_ ?_ ?_
    · -- start
      refine ⟨_, ([] : List Int), n, rfl, s2.pick [0] (by decide) (by walk_at "finL"), ?_, ?_⟩
      · rfl
      · rfl
    · intro i3 σ' H' h4 hP; obtain ⟨y__, ws, nw, rfl, sI, hI0, hI1⟩ := hP
      refine c_sig [some (V.int nw), some (V.int m), some (V.ref p1), some (V.int (i3 : Int))] rfl ?_
      have hlw : ws.length < 1000000 := by rw [hI0, octN_len]; omega
      obtain ⟨n6, en6⟩ : ∃ n : Int, n = (nw % 256) := ⟨_, rfl⟩
      have en60 : 0 ≤ n6 := by rw [en6]; exact Int.emod_nonneg _ (by walk_at "side")
      have en61 : n6 < 256 := by rw [en6]; exact Int.emod_lt_of_pos _ (by walk_at "side")
      refine s_appI (xs := ws) (sI.mem 0 rfl) (vv 2 rfl) (vis (v1 (C := fun _ j => 0 < j) (g := fun i j => .int (i % j)) (by walk_at "side") (vv 0 rfl) vc) (congrArg V.int en6.symm)) (by walk_at "side") ?_
      have s7 : Hs [] H [(p1, .lst ((ws ++ [n6]).map V.int))] _ := sI.wr 0 (.lst ((ws ++ [n6]).map V.int)) rfl
      obtain ⟨n8, en8⟩ : ∃ n : Int, n = (nw / 256) := ⟨_, rfl⟩
      refine s_set [some (V.int n8), some (V.int m), some (V.ref p1), some (V.int (i3 : Int))] (vis (v1 (C := CDiv) (g := fun i j => .int (i / j)) ⟨by walk_at "side", by walk_at "side"⟩ (vv 0 rfl) vc) (congrArg V.int en8.symm)) rfl ?_
      refine s_nx ?_
      refine ⟨_, ws ++ [n6], n8, rfl, s7.pick [0] (by decide) (by walk_at "finL"), ?_, ?_⟩
      · subst_vars; rfl
      · subst_vars; rfl
    · intro σ' H' hP; obtain ⟨y__, ws, nw, rfl, sI, hI0, hI1⟩ := hP
      refine s_ret (vv 2 rfl) ?_
      have s9 : Hs [] H [(p1, .lst ((octI n m).map V.int))] _ := (sI.pick [0] (by decide) (by walk_at "finL"))
      exact fin (kq p1 _ s9 ) (by first | rfl | assumption)
def sp_number_of (K : PySem.W.Frag) (A : Ads) : Sp := fun vs H Q _ => ∃ (a : Addr) (ns : List Int), vs = [V.ref a] ∧ (SqL K H a (ns.map V.int)) ∧ ∀  (H' : Hp), Hs [] H [] H' → Q (V.int (valN ns)) H'
theorem ok_number_of (T : Txt K mg A) : FnOk P w K mg base CX0 1 A.a_number_of A.d_number_of ["octets"] (sp_number_of K A) := by
  refine T.F_number_of.ok sc_number_of (fun vs H Q E h => ?_) (fun cdv A' outer s H vs Q E hRm h => ?_)
  · obtain ⟨a, ns, rfl, _⟩ := h
    rfl
  · obtain ⟨a, ns, rfl, hS, kq⟩ := h
    have hUn := hu_of hRm
    have s0 : Hs [] H [] H := Hs.start H
    refine ⟨_, (pss_cons (ps_set (i := 1) sc_number_of.nd rfl (.inl rfl) pe_int) (pss_cons (ps_for PassesOwn.never rfl (RT.pi_revA rfl T.z_reversed (pv 0)) (pg_name (i := 2) sc_number_of.nd rfl (.inl rfl)) (pss_cons (ps_set (i := 1) sc_number_of.nd rfl (.inl rfl) (pe_op op_add (pe_op op_mul (pv 1) pe_int) (pv 2))) pss_nil)) (pss_cons (ps_ret (pv 1)) pss_nil))), ?_⟩
    refine c_sig [some (V.ref a), none, none] rfl ?_
    refine s_set [some (V.ref a), some (V.int 0), none] vc rfl ?_
    refine s_forV (vv 0 rfl) (s0.sq hS) (fun i1 σ' H' => ∃ (y_octet : Option V) (nt : Int), σ' = [some (V.ref a), some (V.int nt), y_octet] ∧ Hs [] H [] H' ∧ (nt = valN (ns.drop (ns.length - i1)))) ?_ ?_ ?_ ?_
    · -- start
      refine ⟨_, 0, rfl, s0.pick [] (by decide) (by walk_at "finL"), ?_⟩
      · rw [Nat.sub_zero, List.drop_length]; rfl
    · intro i1 σ' H' _ hP; obtain ⟨y_octet, nt, rfl, sI, hI0⟩ := hP
      exact sI.sq hS
    · intro i1 x3 σ' H' h2l h2 hP; obtain ⟨y_octet, nt, rfl, sI, hI0⟩ := hP
      obtain ⟨n4, rfl, h2n⟩ := map_int_get (xs := ns) h2
      refine c_sig [some (V.ref a), some (V.int nt), some (V.int n4)] rfl ?_
      obtain ⟨n5, en5⟩ : ∃ n : Int, n = ((nt * 256) + n4) := ⟨_, rfl⟩
      refine s_set [some (V.ref a), some (V.int n5), some (V.int n4)] (vis (v0 (g := fun i j => .int (i + j)) (v1 (C := CMul) (g := fun i j => .int (i * j)) (.inr (by walk_at "cmul")) (vv 1 rfl) vc) (vv 2 rfl)) (congrArg V.int en5.symm)) rfl ?_
      refine s_nx ?_
      refine ⟨_, n5, rfl, sI.pick [] (by decide) (by walk_at "finL"), ?_⟩
      · rw [val_step h2l h2n, ← hI0]; assumption
    · intro σ' H' hP; obtain ⟨y_octet, nt, rfl, sI, hI0⟩ := hP
      rw [List.length_map, Nat.sub_self, List.drop_zero] at hI0
      refine s_ret (vv 1 rfl) ?_
      have s6 : Hs [] H [] _ := (sI.pick [] (by decide) (by walk_at "finL"))
      exact fin (kq  _ s6 ) (by first | rfl | exact congrArg V.int hI0 | exact congrArg V.int hI0.symm)
def sp_Inode___init__ (K : PySem.W.Frag) (A : Ads) : Sp := fun vs H Q _ => ∃ (x dx : Addr) (ik il iz ih ir ip : Int), vs = [V.ref x, V.int ik, V.int il, V.int iz, V.int ih, V.int ir, V.int ip] ∧ (H x = some (.ins A.c_Inode dx [])) ∧ ∀  (H' : Hp), Hs [x] H [(x, .ins A.c_Inode dx [("kind", V.int ik), ("links", V.int il), ("size", V.int iz), ("height", V.int ih), ("root", V.int ir), ("parent", V.int ip)])] H' → Q (V.non) H'
theorem ok_Inode___init__ (T : Txt K mg A) : FnOk P w K mg base CX0 1 A.a_Inode___init__ A.d_Inode___init__ ["self", "kind", "links", "size", "height", "root", "parent"] (sp_Inode___init__ K A) := by
  refine okD T.F_Inode___init__ sc_Inode___init__ (fun vs H Q E h => ?_) (fun cdv A' outer s H vs Q E hRm h => ?_)
  · obtain ⟨x, dx, ik, il, iz, ih, ir, ip, rfl, _⟩ := h
    rfl
  · obtain ⟨x, dx, ik, il, iz, ih, ir, ip, rfl, hc_x, kq⟩ := h
    have hUn := hu_of hRm
    have s0 : Hs [x] H [(x, .ins A.c_Inode dx [])] H := Hs.start1 hc_x
    refine ⟨_, (pss_cons (ps_fld (pv 0) (pv 1) rfl) (pss_cons (ps_fld (pv 0) (pv 2) rfl) (pss_cons (ps_fld (pv 0) (pv 3) rfl) (pss_cons (ps_fld (pv 0) (pv 4) rfl) (pss_cons (ps_fld (pv 0) (pv 5) rfl) (pss_cons (ps_fld (pv 0) (pv 6) rfl) pss_nil)))))), ?_⟩
    refine c_sig [some (V.ref x), some (V.int ik), some (V.int il), some (V.int iz), some (V.int ih), some (V.int ir), some (V.int ip)] rfl ?_
    refine s_fld (fs' := [("kind", V.int ik)]) (vv 1 rfl) (vv 0 rfl) (s0.mem 0 rfl) T.cl_Inode T.na_Inode_kind (by show 0 < 1000; decide) (by rfl) ?_
    have s1 : Hs [x] H [(x, .ins A.c_Inode dx [("kind", V.int ik)])] _ := s0.wr 0 (.ins A.c_Inode dx [("kind", V.int ik)]) rfl
    refine s_fld (fs' := [("kind", V.int ik), ("links", V.int il)]) (vv 2 rfl) (vv 0 rfl) (s1.mem 0 rfl) T.cl_Inode T.na_Inode_links (by show 1 < 1000; decide) (by rfl) ?_
    have s2 : Hs [x] H [(x, .ins A.c_Inode dx [("kind", V.int ik), ("links", V.int il)])] _ := s1.wr 0 (.ins A.c_Inode dx [("kind", V.int ik), ("links", V.int il)]) rfl
    refine s_fld (fs' := [("kind", V.int ik), ("links", V.int il), ("size", V.int iz)]) (vv 3 rfl) (vv 0 rfl) (s2.mem 0 rfl) T.cl_Inode T.na_Inode_size (by show 2 < 1000; decide) (by rfl) ?_
    have s3 : Hs [x] H [(x, .ins A.c_Inode dx [("kind", V.int ik), ("links", V.int il), ("size", V.int iz)])] _ := s2.wr 0 (.ins A.c_Inode dx [("kind", V.int ik), ("links", V.int il), ("size", V.int iz)]) rfl
    refine s_fld (fs' := [("kind", V.int ik), ("links", V.int il), ("size", V.int iz), ("height", V.int ih)]) (vv 4 rfl) (vv 0 rfl) (s3.mem 0 rfl) T.cl_Inode T.na_Inode_height (by show 3 < 1000; decide) (by rfl) ?_
    have s4 : Hs [x] H [(x, .ins A.c_Inode dx [("kind", V.int ik), ("links", V.int il), ("size", V.int iz), ("height", V.int ih)])] _ := s3.wr 0 (.ins A.c_Inode dx [("kind", V.int ik), ("links", V.int il), ("size", V.int iz), ("height", V.int ih)]) rfl
    refine s_fld (fs' := [("kind", V.int ik), ("links", V.int il), ("size", V.int iz), ("height", V.int ih), ("root", V.int ir)]) (vv 5 rfl) (vv 0 rfl) (s4.mem 0 rfl) T.cl_Inode T.na_Inode_root (by show 4 < 1000; decide) (by rfl) ?_
    have s5 : Hs [x] H [(x, .ins A.c_Inode dx [("kind", V.int ik), ("links", V.int il), ("size", V.int iz), ("height", V.int ih), ("root", V.int ir)])] _ := s4.wr 0 (.ins A.c_Inode dx [("kind", V.int ik), ("links", V.int il), ("size", V.int iz), ("height", V.int ih), ("root", V.int ir)]) rfl
    refine s_fld (fs' := [("kind", V.int ik), ("links", V.int il), ("size", V.int iz), ("height", V.int ih), ("root", V.int ir), ("parent", V.int ip)]) (vv 6 rfl) (vv 0 rfl) (s5.mem 0 rfl) T.cl_Inode T.na_Inode_parent (by show 5 < 1000; decide) (by rfl) ?_
    have s6 : Hs [x] H [(x, .ins A.c_Inode dx [("kind", V.int ik), ("links", V.int il), ("size", V.int iz), ("height", V.int ih), ("root", V.int ir), ("parent", V.int ip)])] _ := s5.wr 0 (.ins A.c_Inode dx [("kind", V.int ik), ("links", V.int il), ("size", V.int iz), ("height", V.int ih), ("root", V.int ir), ("parent", V.int ip)]) rfl
    refine s_nx ?_
    have s7 : Hs [x] H [(x, .ins A.c_Inode dx [("kind", V.int ik), ("links", V.int il), ("size", V.int iz), ("height", V.int ih), ("root", V.int ir), ("parent", V.int ip)])] _ := (s6.pick [0] (by decide) (by walk_at "finL"))
    exact fin (kq  _ s7 ) (by rfl)
def sp_Inode_is_directory (K : PySem.W.Frag) (A : Ads) : Sp := fun vs H Q _ => ∃ (x dx : Addr) (ik il iz ih ir ip : Int), vs = [V.ref x] ∧ (H x = some (.ins A.c_Inode dx [("kind", V.int ik), ("links", V.int il), ("size", V.int iz), ("height", V.int ih), ("root", V.int ir), ("parent", V.int ip)])) ∧ Q (V.bl (decide (ik = 2))) H
theorem ok_Inode_is_directory (T : Txt K mg A) : FnOk P w K mg base CX0 1 A.a_Inode_is_directory A.d_Inode_is_directory ["self"] (sp_Inode_is_directory K A) := by
  refine T.F_Inode_is_directory.ok sc_Inode_is_directory (fun vs H Q E h => ?_) (fun cdv A' outer s H vs Q E hRm h => ?_)
  · obtain ⟨x, dx, ik, il, iz, ih, ir, ip, rfl, _⟩ := h
    rfl
  · obtain ⟨x, dx, ik, il, iz, ih, ir, ip, rfl, hL, kq⟩ := h
    have hUn := hu_of hRm
    have s0 : Hs [] H [] H := Hs.start H
    refine ⟨_, (pss_cons (ps_ret (pe_cmpR op_eq (pe_fld (pv 0) rfl) (pe_glob (v := .int 2) (by rfl) T.k_DIRECTORY (by exact ⟨_, rfl⟩)) (nomark _))) pss_nil), ?_⟩
    refine c_sig [some (V.ref x)] rfl ?_
    refine s_ret (veq (vfld (vv 0 rfl) (s0.same _ _ hL) T.cl_Inode T.na_Inode_kind (by rfl)) vc) ?_
    exact fin kq (by rfl)
def sp_encode_inode (K : PySem.W.Frag) (A : Ads) : Sp := fun vs H Q _ => ∃ (x dx : Addr) (ik il iz ih ir ip : Int), vs = [V.ref x] ∧ (H x = some (.ins A.c_Inode dx [("kind", V.int ik), ("links", V.int il), ("size", V.int iz), ("height", V.int ih), ("root", V.int ir), ("parent", V.int ip)])) ∧ ∀ (p : Addr) (H' : Hp), Hs [] H [(p, .lst ((encN ik il iz ih ir ip).map V.int))] H' → Q (V.ref p) H'
theorem ok_encode_inode (T : Txt K mg A) : FnOk P w K mg base CX0 2 A.a_encode_inode A.d_encode_inode ["inode"] (sp_encode_inode K A) := by
  have G_number_octets : FnOk P w K mg base CX0 1 A.a_number_octets A.d_number_octets ["number", "count"] (sp_number_octets K A) := ok_number_octets T
  refine T.F_encode_inode.ok sc_encode_inode (fun vs H Q E h => ?_) (fun cdv A' outer s H vs Q E hRm h => ?_)
  · obtain ⟨x, dx, ik, il, iz, ih, ir, ip, rfl, _⟩ := h
    rfl
  · obtain ⟨x, dx, ik, il, iz, ih, ir, ip, rfl, hL, kq⟩ := h
    have hUn := hu_of hRm
    have s0 : Hs [] H [] H := Hs.start H
    refine ⟨_, (pss_cons (ps_set (i := 1) sc_encode_inode.nd rfl (.inl rfl) (pe_lst (pa_cons (pe_fld (pv 0) rfl) pa_nil))) (pss_cons (ps_set (i := 1) sc_encode_inode.nd rfl (.inl rfl) (pe_op op_cat (pe_op op_cat (pe_op op_cat (pv 1) (pe_call G_number_octets (hRm.mono (by decide)) (by rfl) T.g_number_octets T.F_number_octets.kp T.b_number_octets .nil pass0 (pa_cons (pe_fld (pv 0) rfl) (pa_cons pe_int pa_nil)))) (pe_call G_number_octets (hRm.mono (by decide)) (by rfl) T.g_number_octets T.F_number_octets.kp T.b_number_octets .nil pass0 (pa_cons (pe_fld (pv 0) rfl) (pa_cons pe_int pa_nil)))) (pe_lst (pa_cons (pe_fld (pv 0) rfl) pa_nil)))) (pss_cons (ps_set (i := 1) sc_encode_inode.nd rfl (.inl rfl) (pe_op op_cat (pe_op op_cat (pv 1) (pe_call G_number_octets (hRm.mono (by decide)) (by rfl) T.g_number_octets T.F_number_octets.kp T.b_number_octets .nil pass0 (pa_cons (pe_fld (pv 0) rfl) (pa_cons pe_int pa_nil)))) (pe_call G_number_octets (hRm.mono (by decide)) (by rfl) T.g_number_octets T.F_number_octets.kp T.b_number_octets .nil pass0 (pa_cons (pe_fld (pv 0) rfl) (pa_cons pe_int pa_nil))))) (pss_cons (ps_ret (pe_op op_cat (pv 1) (pe_lst (pa_cons pe_int (pa_cons pe_int (pa_cons pe_int (pa_cons pe_int pa_nil))))))) pss_nil)))), ?_⟩
    refine c_sig [some (V.ref x), none] rfl ?_
    refine c_set ?_
    refine c_lst ?_
    refine c_cons ?_
    refine (vfld (vv 0 rfl) (s0.same _ _ hL) T.cl_Inode T.na_Inode_kind (by rfl)) _ ?_
    refine c_nil ?_
    refine ⟨sz1 (by show 1 ≤ 1000000; decide), fun p1 np1 => ?_⟩
    have s2 : Hs [] H [(p1, .lst ([V.int ik]))] _ := s0.new np1 (.lst ([V.int ik]))
    refine k_set [some (V.ref x), some (V.ref p1)] rfl ?_
    refine c_set ?_
    refine c_op ?_
    refine c_op ?_
    refine c_op ?_
    refine (vv 1 rfl) _ ?_
    refine c_callx ?_
    refine c_cons ?_
    refine (vfld (vv 0 rfl) (s2.same _ _ hL) T.cl_Inode T.na_Inode_links (by rfl)) _ ?_
    refine c_cons ?_
    refine vc _ ?_
    refine c_nil ?_
    refine ⟨il, 2, rfl, (by walk_at "side"), (by walk_at "side"), fun p_3 H4 r5 => ?_⟩
    have s6 : Hs [] H [(p_3, .lst ((octI il 2).map V.int)), (p1, .lst ([V.int ik]))] _ := s2.call0 r5
    refine c_cat (s6.mem 1 rfl) (s6.mem 0 rfl) (by walk_at "side") (fun p7 np7 => ?_)
    have s8 : Hs [] H [(p7, .lst ((([ik]) ++ (octI il 2)).map V.int)), (p_3, .lst ((octI il 2).map V.int)), (p1, .lst ([V.int ik]))] _ := (s6.new np7 (.lst (([V.int ik]) ++ ((octI il 2).map V.int)))).top (cat_eq (a := [ik]) (b := octI il 2) rfl rfl)
    refine c_callx ?_
    refine c_cons ?_
    refine (vfld (vv 0 rfl) (s8.same _ _ hL) T.cl_Inode T.na_Inode_size (by rfl)) _ ?_
    refine c_cons ?_
    refine vc _ ?_
    refine c_nil ?_
    refine ⟨iz, 4, rfl, (by walk_at "side"), (by walk_at "side"), fun p_9 H10 r11 => ?_⟩
    have s12 : Hs [] H [(p_9, .lst ((octI iz 4).map V.int)), (p7, .lst ((([ik]) ++ (octI il 2)).map V.int)), (p_3, .lst ((octI il 2).map V.int)), (p1, .lst ([V.int ik]))] _ := s8.call0 r11
    refine c_cat (s12.mem 1 rfl) (s12.mem 0 rfl) (by walk_at "side") (fun p13 np13 => ?_)
    have s14 : Hs [] H [(p13, .lst (((([ik]) ++ (octI il 2)) ++ (octI iz 4)).map V.int)), (p_9, .lst ((octI iz 4).map V.int)), (p7, .lst ((([ik]) ++ (octI il 2)).map V.int)), (p_3, .lst ((octI il 2).map V.int)), (p1, .lst ([V.int ik]))] _ := (s12.new np13 (.lst (((([ik]) ++ (octI il 2)).map V.int) ++ ((octI iz 4).map V.int)))).top (cat_eq (a := ([ik]) ++ (octI il 2)) (b := octI iz 4) rfl rfl)
    refine c_lst ?_
    refine c_cons ?_
    refine (vfld (vv 0 rfl) (s14.same _ _ hL) T.cl_Inode T.na_Inode_height (by rfl)) _ ?_
    refine c_nil ?_
    refine ⟨sz1 (by show 1 ≤ 1000000; decide), fun p15 np15 => ?_⟩
    have s16 : Hs [] H [(p15, .lst ([V.int ih])), (p13, .lst (((([ik]) ++ (octI il 2)) ++ (octI iz 4)).map V.int)), (p_9, .lst ((octI iz 4).map V.int)), (p7, .lst ((([ik]) ++ (octI il 2)).map V.int)), (p_3, .lst ((octI il 2).map V.int)), (p1, .lst ([V.int ik]))] _ := s14.new np15 (.lst ([V.int ih]))
    refine c_cat (s16.mem 1 rfl) (s16.mem 0 rfl) (by walk_at "side") (fun p17 np17 => ?_)
    have s18 : Hs [] H [(p17, .lst ((((([ik]) ++ (octI il 2)) ++ (octI iz 4)) ++ ([ih])).map V.int)), (p15, .lst ([V.int ih])), (p13, .lst (((([ik]) ++ (octI il 2)) ++ (octI iz 4)).map V.int)), (p_9, .lst ((octI iz 4).map V.int)), (p7, .lst ((([ik]) ++ (octI il 2)).map V.int)), (p_3, .lst ((octI il 2).map V.int)), (p1, .lst ([V.int ik]))] _ := (s16.new np17 (.lst ((((([ik]) ++ (octI il 2)) ++ (octI iz 4)).map V.int) ++ ([V.int ih])))).top (cat_eq (a := (([ik]) ++ (octI il 2)) ++ (octI iz 4)) (b := [ih]) rfl rfl)
    refine k_set [some (V.ref x), some (V.ref p17)] rfl ?_
    refine c_set ?_
    refine c_op ?_
    refine c_op ?_
    refine (vv 1 rfl) _ ?_
    refine c_callx ?_
    refine c_cons ?_
    refine (vfld (vv 0 rfl) (s18.same _ _ hL) T.cl_Inode T.na_Inode_root (by rfl)) _ ?_
    refine c_cons ?_
    refine vc _ ?_
    refine c_nil ?_
    refine ⟨ir, 2, rfl, (by walk_at "side"), (by walk_at "side"), fun p_19 H20 r21 => ?_⟩
    have s22 : Hs [] H [(p_19, .lst ((octI ir 2).map V.int)), (p17, .lst ((((([ik]) ++ (octI il 2)) ++ (octI iz 4)) ++ ([ih])).map V.int)), (p15, .lst ([V.int ih])), (p13, .lst (((([ik]) ++ (octI il 2)) ++ (octI iz 4)).map V.int)), (p_9, .lst ((octI iz 4).map V.int)), (p7, .lst ((([ik]) ++ (octI il 2)).map V.int)), (p_3, .lst ((octI il 2).map V.int)), (p1, .lst ([V.int ik]))] _ := s18.call0 r21
    refine c_cat (s22.mem 1 rfl) (s22.mem 0 rfl) (by walk_at "side") (fun p23 np23 => ?_)
    have s24 : Hs [] H [(p23, .lst (((((([ik]) ++ (octI il 2)) ++ (octI iz 4)) ++ ([ih])) ++ (octI ir 2)).map V.int)), (p_19, .lst ((octI ir 2).map V.int)), (p17, .lst ((((([ik]) ++ (octI il 2)) ++ (octI iz 4)) ++ ([ih])).map V.int)), (p15, .lst ([V.int ih])), (p13, .lst (((([ik]) ++ (octI il 2)) ++ (octI iz 4)).map V.int)), (p_9, .lst ((octI iz 4).map V.int)), (p7, .lst ((([ik]) ++ (octI il 2)).map V.int)), (p_3, .lst ((octI il 2).map V.int)), (p1, .lst ([V.int ik]))] _ := (s22.new np23 (.lst (((((([ik]) ++ (octI il 2)) ++ (octI iz 4)) ++ ([ih])).map V.int) ++ ((octI ir 2).map V.int)))).top (cat_eq (a := ((([ik]) ++ (octI il 2)) ++ (octI iz 4)) ++ ([ih])) (b := octI ir 2) rfl rfl)
    refine c_callx ?_
    refine c_cons ?_
    refine (vfld (vv 0 rfl) (s24.same _ _ hL) T.cl_Inode T.na_Inode_parent (by rfl)) _ ?_
    refine c_cons ?_
    refine vc _ ?_
    refine c_nil ?_
    refine ⟨ip, 2, rfl, (by walk_at "side"), (by walk_at "side"), fun p_25 H26 r27 => ?_⟩
    have s28 : Hs [] H [(p_25, .lst ((octI ip 2).map V.int)), (p23, .lst (((((([ik]) ++ (octI il 2)) ++ (octI iz 4)) ++ ([ih])) ++ (octI ir 2)).map V.int)), (p_19, .lst ((octI ir 2).map V.int)), (p17, .lst ((((([ik]) ++ (octI il 2)) ++ (octI iz 4)) ++ ([ih])).map V.int)), (p15, .lst ([V.int ih])), (p13, .lst (((([ik]) ++ (octI il 2)) ++ (octI iz 4)).map V.int)), (p_9, .lst ((octI iz 4).map V.int)), (p7, .lst ((([ik]) ++ (octI il 2)).map V.int)), (p_3, .lst ((octI il 2).map V.int)), (p1, .lst ([V.int ik]))] _ := s24.call0 r27
    refine c_cat (s28.mem 1 rfl) (s28.mem 0 rfl) (by walk_at "side") (fun p29 np29 => ?_)
    have s30 : Hs [] H [(p29, .lst ((((((([ik]) ++ (octI il 2)) ++ (octI iz 4)) ++ ([ih])) ++ (octI ir 2)) ++ (octI ip 2)).map V.int)), (p_25, .lst ((octI ip 2).map V.int)), (p23, .lst (((((([ik]) ++ (octI il 2)) ++ (octI iz 4)) ++ ([ih])) ++ (octI ir 2)).map V.int)), (p_19, .lst ((octI ir 2).map V.int)), (p17, .lst ((((([ik]) ++ (octI il 2)) ++ (octI iz 4)) ++ ([ih])).map V.int)), (p15, .lst ([V.int ih])), (p13, .lst (((([ik]) ++ (octI il 2)) ++ (octI iz 4)).map V.int)), (p_9, .lst ((octI iz 4).map V.int)), (p7, .lst ((([ik]) ++ (octI il 2)).map V.int)), (p_3, .lst ((octI il 2).map V.int)), (p1, .lst ([V.int ik]))] _ := (s28.new np29 (.lst ((((((([ik]) ++ (octI il 2)) ++ (octI iz 4)) ++ ([ih])) ++ (octI ir 2)).map V.int) ++ ((octI ip 2).map V.int)))).top (cat_eq (a := (((([ik]) ++ (octI il 2)) ++ (octI iz 4)) ++ ([ih])) ++ (octI ir 2)) (b := octI ip 2) rfl rfl)
    refine k_set [some (V.ref x), some (V.ref p29)] rfl ?_
    refine c_ret ?_
    refine c_op ?_
    refine (vv 1 rfl) _ ?_
    refine c_lst ?_
    refine c_cons ?_
    refine vc _ ?_
    refine c_cons ?_
    refine vc _ ?_
    refine c_cons ?_
    refine vc _ ?_
    refine c_cons ?_
    refine vc _ ?_
    refine c_nil ?_
    refine ⟨sz1 (by show 4 ≤ 1000000; decide), fun p31 np31 => ?_⟩
    have s32 : Hs [] H [(p31, .lst ([V.int 0, V.int 0, V.int 0, V.int 0])), (p29, .lst ((((((([ik]) ++ (octI il 2)) ++ (octI iz 4)) ++ ([ih])) ++ (octI ir 2)) ++ (octI ip 2)).map V.int)), (p_25, .lst ((octI ip 2).map V.int)), (p23, .lst (((((([ik]) ++ (octI il 2)) ++ (octI iz 4)) ++ ([ih])) ++ (octI ir 2)).map V.int)), (p_19, .lst ((octI ir 2).map V.int)), (p17, .lst ((((([ik]) ++ (octI il 2)) ++ (octI iz 4)) ++ ([ih])).map V.int)), (p15, .lst ([V.int ih])), (p13, .lst (((([ik]) ++ (octI il 2)) ++ (octI iz 4)).map V.int)), (p_9, .lst ((octI iz 4).map V.int)), (p7, .lst ((([ik]) ++ (octI il 2)).map V.int)), (p_3, .lst ((octI il 2).map V.int)), (p1, .lst ([V.int ik]))] _ := s30.new np31 (.lst ([V.int 0, V.int 0, V.int 0, V.int 0]))
    refine c_cat (s32.mem 1 rfl) (s32.mem 0 rfl) (by walk_at "side") (fun p33 np33 => ?_)
    have s34 : Hs [] H [(p33, .lst (((((((([ik]) ++ (octI il 2)) ++ (octI iz 4)) ++ ([ih])) ++ (octI ir 2)) ++ (octI ip 2)) ++ ([0, 0, 0, 0] : List Int)).map V.int)), (p31, .lst ([V.int 0, V.int 0, V.int 0, V.int 0])), (p29, .lst ((((((([ik]) ++ (octI il 2)) ++ (octI iz 4)) ++ ([ih])) ++ (octI ir 2)) ++ (octI ip 2)).map V.int)), (p_25, .lst ((octI ip 2).map V.int)), (p23, .lst (((((([ik]) ++ (octI il 2)) ++ (octI iz 4)) ++ ([ih])) ++ (octI ir 2)).map V.int)), (p_19, .lst ((octI ir 2).map V.int)), (p17, .lst ((((([ik]) ++ (octI il 2)) ++ (octI iz 4)) ++ ([ih])).map V.int)), (p15, .lst ([V.int ih])), (p13, .lst (((([ik]) ++ (octI il 2)) ++ (octI iz 4)).map V.int)), (p_9, .lst ((octI iz 4).map V.int)), (p7, .lst ((([ik]) ++ (octI il 2)).map V.int)), (p_3, .lst ((octI il 2).map V.int)), (p1, .lst ([V.int ik]))] _ := (s32.new np33 (.lst (((((((([ik]) ++ (octI il 2)) ++ (octI iz 4)) ++ ([ih])) ++ (octI ir 2)) ++ (octI ip 2)).map V.int) ++ ([V.int 0, V.int 0, V.int 0, V.int 0])))).top (cat_eq (a := ((((([ik]) ++ (octI il 2)) ++ (octI iz 4)) ++ ([ih])) ++ (octI ir 2)) ++ (octI ip 2)) (b := ([0, 0, 0, 0] : List Int)) rfl rfl)
    have s35 : Hs [] H [(p33, .lst ((encN ik il iz ih ir ip).map V.int))] _ := (s34.pick [0] (by decide) (by walk_at "finL"))
    exact fin (kq p33 _ s35 ) (by rfl)
def sp_decode_inode_0 (K : PySem.W.Frag) (A : Ads) : Sp := fun vs H Q _ => ∃ (a : Addr) (ns : List Int), vs = [V.ref a] ∧ (SqL K H a (ns.map V.int)) ∧ (ns.length = 16) ∧ (InoG ns) ∧ ∀ (p dx : Addr) (H' : Hp), Hs [] H [(p, .ins A.c_Inode dx [("kind", V.int (gi ns 0)), ("links", V.int (valN (cutI ns 1 3))), ("size", V.int (valN (cutI ns 3 7))), ("height", V.int (gi ns 7)), ("root", V.int (valN (cutI ns 8 10))), ("parent", V.int (valN (cutI ns 10 12)))])] H' → Q (V.ref p) H'
def sp_decode_inode_1 (K : PySem.W.Frag) (A : Ads) : Sp := fun vs H Q _ => ∃ (a : Addr) (ns : List Int), vs = [V.ref a] ∧ (SqL K H a (ns.map V.int)) ∧ (ns.length = 16) ∧ (¬ InoG ns) ∧ ∀  (H' : Hp), Hs [] H [] H' → Q (V.non) H'
def sp_decode_inode (K : PySem.W.Frag) (A : Ads) : Sp := fun vs H Q E => sp_decode_inode_0 K A vs H Q E ∨ sp_decode_inode_1 K A vs H Q E
theorem ok_decode_inode (T : Txt K mg A) : FnOk P w K mg base CX0 3 A.a_decode_inode A.d_decode_inode ["octets"] (sp_decode_inode K A) := by
  have G_number_of : FnOk P w K mg base CX0 1 A.a_number_of A.d_number_of ["octets"] (sp_number_of K A) := ok_number_of T
  have G_Inode___init__ : FnOk P w K mg base CX0 1 A.a_Inode___init__ A.d_Inode___init__ ["self", "kind", "links", "size", "height", "root", "parent"] (sp_Inode___init__ K A) := ok_Inode___init__ T
  obtain ⟨ds_Inode___init___7, vs_Inode___init___7, bs_Inode___init___7⟩ := T.b_Inode___init___7
  refine T.F_decode_inode.ok sc_decode_inode (fun vs H Q E h => ?_) (fun cdv A' outer s H vs Q E hRm h => ?_)
  · rcases h with h | h
    · obtain ⟨a, ns, rfl, _⟩ := h
      rfl
    · obtain ⟨a, ns, rfl, _⟩ := h
      rfl
  · rcases h with h | h
    · obtain ⟨a, ns, rfl, hS, hl, hg, kq⟩ := h
      have hUn := hu_of hRm
      have s0 : Hs [] H [] H := Hs.start H
      refine ⟨_, (pss_cons (ps_if (pw_or (pt_cmpR op_notIn_seq (pe_ix ix_list (pv 0) pe_int (fun _ _ => rfl)) (pe_tup (pa_cons (pe_glob (v := .int 1) (by rfl) T.k_FILE (by exact ⟨_, rfl⟩)) (pa_cons (pe_glob (v := .int 2) (by rfl) T.k_DIRECTORY (by exact ⟨_, rfl⟩)) (pa_cons (pe_glob (v := .int 3) (by rfl) T.k_LINK (by exact ⟨_, rfl⟩)) pa_nil)))) (by with_unfolding_all rfl)) (pw_or1 (pt_val (pe_callB (cr_anyI rfl) (by rfl) T.z_any (by decide +kernel) (pa_cons (pe_slice sl_list (pv 0) (po_some pe_int) (po_some pe_int)) pa_nil)) (fun _ => rfl)))).pt (pss_cons (ps_ret pe_non) pss_nil) pss_nil) (pss_cons (ps_set (i := 1) sc_decode_inode.nd rfl (.inl rfl) (pe_call G_number_of (hRm.mono (by decide)) (by rfl) T.g_number_of T.F_number_of.kp T.b_number_of .nil pass0 (pa_cons (pe_slice sl_list (pv 0) (po_some pe_int) (po_some pe_int)) pa_nil))) (pss_cons (ps_set (i := 2) sc_decode_inode.nd rfl (.inl rfl) (pe_call G_number_of (hRm.mono (by decide)) (by rfl) T.g_number_of T.F_number_of.kp T.b_number_of .nil pass0 (pa_cons (pe_slice sl_list (pv 0) (po_some pe_int) (po_some pe_int)) pa_nil))) (pss_cons (ps_ret (pe_make T.mk_Inode G_Inode___init__ (hRm.mono (by decide)) (by rfl) T.g_Inode bs_Inode___init___7 vs_Inode___init___7 pass0 (pa_cons (pe_ix ix_list (pv 0) pe_int (fun _ _ => rfl)) (pa_cons (pv 1) (pa_cons (pv 2) (pa_cons (pe_ix ix_list (pv 0) pe_int (fun _ _ => rfl)) (pa_cons (pe_call G_number_of (hRm.mono (by decide)) (by rfl) T.g_number_of T.F_number_of.kp T.b_number_of .nil pass0 (pa_cons (pe_slice sl_list (pv 0) (po_some pe_int) (po_some pe_int)) pa_nil)) (pa_cons (pe_call G_number_of (hRm.mono (by decide)) (by rfl) T.g_number_of T.F_number_of.kp T.b_number_of .nil pass0 (pa_cons (pe_slice sl_list (pv 0) (po_some pe_int) (po_some pe_int)) pa_nil)) pa_nil)))))))) pss_nil)))), ?_⟩
      refine c_sig [some (V.ref a), none, none] rfl ?_
      refine c_ifS ?_
      refine c_or ?_
      refine c_test ?_
      refine c_op ?_
      obtain ⟨n3, en3⟩ : ∃ n : Int, n = (gi ns 0) := ⟨_, rfl⟩
      refine (vis (vixL (vv 0 rfl) vc (xs := (ns.map V.int)) (s0.sq hS) (at_gi (by walk_at "side") (by walk_at "side"))) (congrArg V.int en3.symm)) _ ?_
      refine c_tup ?_
      refine c_cons ?_
      refine vc _ ?_
      refine c_cons ?_
      refine vc _ ?_
      refine c_cons ?_
      refine vc _ ?_
      refine c_nil ?_
      refine ⟨sz1 (by show 3 ≤ 1000000; decide), fun p4 np4 => ?_⟩
      have s5 : Hs [] H [(p4, .tup ([V.int 1, V.int 2, V.int 3]))] _ := s0.new np4 (.tup ([V.int 1, V.int 2, V.int 3]))
      refine r_notin (ns := ([1, 2, 3] : List Int)) (.inr (s5.t 0 rfl)) ?_
      refine ⟨_, rfl, ?_⟩
      refine c_ite (p := ¬ (n3 ∈ ([1, 2, 3] : List Int))) (fun h2 => ?_) (fun h2 => ?_)
      · -- yes
        simp only [List.mem_cons, List.not_mem_nil, or_false, Decidable.not_not] at h2
        refine iteT ?_
        refine s_ret vc ?_
        exfalso; obtain ⟨hgA, hgB⟩ := hg; first | omega | simp_all
      · -- no
        simp only [List.mem_cons, List.not_mem_nil, or_false, Decidable.not_not] at h2
        refine c_tB ?_
        refine c_cb ?_
        refine c_cons ?_
        refine (vv 0 rfl) _ ((vp1 vc) _ ((vp1 vc) _ (r_slL (s5.sq hS) (by show (0 : Int) ≤ 12; walk_at "side") (by show (12 : Int) ≤ (ns.length : Int); walk_at "side") (by show (0 : Int) ≤ 16; walk_at "side") (by show (16 : Int) ≤ (ns.length : Int); walk_at "side") fun p7 np7 => ?_)))
        have s8 : Hs [] H [(p7, .lst ((cutI ns 12 16).map V.int)), (p4, .tup ([V.int 1, V.int 2, V.int 3]))] _ := s5.new np7 (.lst ((cutI ns 12 16).map V.int))
        refine c_nil ?_
        refine ⟨_, (cutI ns 12 16), rfl, (s8.l 0 rfl), ?_⟩
        refine ⟨_, rfl, ?_⟩
        refine c_iteB (fun h6 => ?_) (fun h6 => ?_)
        · -- yes
          refine s_ret vc ?_
          exfalso; obtain ⟨hgA, hgB⟩ := hg; first | omega | simp_all
        · -- no
          refine s_nxs ?_
          refine c_set ?_
          refine c_callx ?_
          refine c_cons ?_
          refine (vv 0 rfl) _ ((vp1 vc) _ ((vp1 vc) _ (r_slL (s8.sq hS) (by show (0 : Int) ≤ 1; walk_at "side") (by show (1 : Int) ≤ (ns.length : Int); walk_at "side") (by show (0 : Int) ≤ 3; walk_at "side") (by show (3 : Int) ≤ (ns.length : Int); walk_at "side") fun p9 np9 => ?_)))
          have s10 : Hs [] H [(p9, .lst ((cutI ns 1 3).map V.int)), (p7, .lst ((cutI ns 12 16).map V.int)), (p4, .tup ([V.int 1, V.int 2, V.int 3]))] _ := s8.new np9 (.lst ((cutI ns 1 3).map V.int))
          refine c_nil ?_
          refine ⟨p9, (cutI ns 1 3), rfl, (s10.l 0 rfl), fun H11 r12 => ?_⟩
          have s13 : Hs [] H [(p9, .lst ((cutI ns 1 3).map V.int)), (p7, .lst ((cutI ns 12 16).map V.int)), (p4, .tup ([V.int 1, V.int 2, V.int 3]))] _ := s10.call0 r12
          obtain ⟨n14, en14⟩ : ∃ n : Int, n = (valN (cutI ns 1 3)) := ⟨_, rfl⟩
          refine k_setv (.int n14) (congrArg V.int en14.symm) ?_
          refine k_set [some (V.ref a), some (V.int n14), none] rfl ?_
          refine c_set ?_
          refine c_callx ?_
          refine c_cons ?_
          refine (vv 0 rfl) _ ((vp1 vc) _ ((vp1 vc) _ (r_slL (s13.sq hS) (by show (0 : Int) ≤ 3; walk_at "side") (by show (3 : Int) ≤ (ns.length : Int); walk_at "side") (by show (0 : Int) ≤ 7; walk_at "side") (by show (7 : Int) ≤ (ns.length : Int); walk_at "side") fun p15 np15 => ?_)))
          have s16 : Hs [] H [(p15, .lst ((cutI ns 3 7).map V.int)), (p9, .lst ((cutI ns 1 3).map V.int)), (p7, .lst ((cutI ns 12 16).map V.int)), (p4, .tup ([V.int 1, V.int 2, V.int 3]))] _ := s13.new np15 (.lst ((cutI ns 3 7).map V.int))
          refine c_nil ?_
          refine ⟨p15, (cutI ns 3 7), rfl, (s16.l 0 rfl), fun H17 r18 => ?_⟩
          have s19 : Hs [] H [(p15, .lst ((cutI ns 3 7).map V.int)), (p9, .lst ((cutI ns 1 3).map V.int)), (p7, .lst ((cutI ns 12 16).map V.int)), (p4, .tup ([V.int 1, V.int 2, V.int 3]))] _ := s16.call0 r18
          obtain ⟨n20, en20⟩ : ∃ n : Int, n = (valN (cutI ns 3 7)) := ⟨_, rfl⟩
          refine k_setv (.int n20) (congrArg V.int en20.symm) ?_
          refine k_set [some (V.ref a), some (V.int n14), some (V.int n20)] rfl ?_
          refine c_ret ?_
          refine c_make ?_
          refine c_cons ?_
          refine (vis (vixL (vv 0 rfl) vc (xs := (ns.map V.int)) (s19.sq hS) (at_gi (by walk_at "side") (by walk_at "side"))) (congrArg V.int en3.symm)) _ ?_
          refine c_cons ?_
          refine (vv 1 rfl) _ ?_
          refine c_cons ?_
          refine (vv 2 rfl) _ ?_
          refine c_cons ?_
          obtain ⟨n21, en21⟩ : ∃ n : Int, n = (gi ns 7) := ⟨_, rfl⟩
          refine (vis (vixL (vv 0 rfl) vc (xs := (ns.map V.int)) (s19.sq hS) (at_gi (by walk_at "side") (by walk_at "side"))) (congrArg V.int en21.symm)) _ ?_
          refine c_cons ?_
          refine c_callx ?_
          refine c_cons ?_
          refine (vv 0 rfl) _ ((vp1 vc) _ ((vp1 vc) _ (r_slL (s19.sq hS) (by show (0 : Int) ≤ 8; walk_at "side") (by show (8 : Int) ≤ (ns.length : Int); walk_at "side") (by show (0 : Int) ≤ 10; walk_at "side") (by show (10 : Int) ≤ (ns.length : Int); walk_at "side") fun p22 np22 => ?_)))
          have s23 : Hs [] H [(p22, .lst ((cutI ns 8 10).map V.int)), (p15, .lst ((cutI ns 3 7).map V.int)), (p9, .lst ((cutI ns 1 3).map V.int)), (p7, .lst ((cutI ns 12 16).map V.int)), (p4, .tup ([V.int 1, V.int 2, V.int 3]))] _ := s19.new np22 (.lst ((cutI ns 8 10).map V.int))
          refine c_nil ?_
          refine ⟨p22, (cutI ns 8 10), rfl, (s23.l 0 rfl), fun H24 r25 => ?_⟩
          have s26 : Hs [] H [(p22, .lst ((cutI ns 8 10).map V.int)), (p15, .lst ((cutI ns 3 7).map V.int)), (p9, .lst ((cutI ns 1 3).map V.int)), (p7, .lst ((cutI ns 12 16).map V.int)), (p4, .tup ([V.int 1, V.int 2, V.int 3]))] _ := s23.call0 r25
          refine c_cons ?_
          refine c_callx ?_
          refine c_cons ?_
          refine (vv 0 rfl) _ ((vp1 vc) _ ((vp1 vc) _ (r_slL (s26.sq hS) (by show (0 : Int) ≤ 10; walk_at "side") (by show (10 : Int) ≤ (ns.length : Int); walk_at "side") (by show (0 : Int) ≤ 12; walk_at "side") (by show (12 : Int) ≤ (ns.length : Int); walk_at "side") fun p27 np27 => ?_)))
          have s28 : Hs [] H [(p27, .lst ((cutI ns 10 12).map V.int)), (p22, .lst ((cutI ns 8 10).map V.int)), (p15, .lst ((cutI ns 3 7).map V.int)), (p9, .lst ((cutI ns 1 3).map V.int)), (p7, .lst ((cutI ns 12 16).map V.int)), (p4, .tup ([V.int 1, V.int 2, V.int 3]))] _ := s26.new np27 (.lst ((cutI ns 10 12).map V.int))
          refine c_nil ?_
          refine ⟨p27, (cutI ns 10 12), rfl, (s28.l 0 rfl), fun H29 r30 => ?_⟩
          have s31 : Hs [] H [(p27, .lst ((cutI ns 10 12).map V.int)), (p22, .lst ((cutI ns 8 10).map V.int)), (p15, .lst ((cutI ns 3 7).map V.int)), (p9, .lst ((cutI ns 1 3).map V.int)), (p7, .lst ((cutI ns 12 16).map V.int)), (p4, .tup ([V.int 1, V.int 2, V.int 3]))] _ := s28.call0 r30
          refine c_nil ?_
          intro p32 d33 np32 nd33 nep32
          have s34 := (s31.new nd33 (.own p32)).new (upd_none np32 nep32) (.ins A.c_Inode d33 [])
          refine ⟨p32, d33, n3, n14, n20, n21, (valN (cutI ns 8 10)), (valN (cutI ns 10 12)), rfl, (s34.mem 0 rfl), fun H35 r36 => ?_⟩
          have s37 : Hs [] H [(p32, .ins A.c_Inode d33 [("kind", V.int n3), ("links", V.int n14), ("size", V.int n20), ("height", V.int n21), ("root", V.int (valN (cutI ns 8 10))), ("parent", V.int (valN (cutI ns 10 12)))]), (d33, .own p32), (p27, .lst ((cutI ns 10 12).map V.int)), (p22, .lst ((cutI ns 8 10).map V.int)), (p15, .lst ((cutI ns 3 7).map V.int)), (p9, .lst ((cutI ns 1 3).map V.int)), (p7, .lst ((cutI ns 12 16).map V.int)), (p4, .tup ([V.int 1, V.int 2, V.int 3]))] _ := s34.call (R := [(d33, .own p32), (p27, .lst ((cutI ns 10 12).map V.int)), (p22, .lst ((cutI ns 8 10).map V.int)), (p15, .lst ((cutI ns 3 7).map V.int)), (p9, .lst ((cutI ns 1 3).map V.int)), (p7, .lst ((cutI ns 12 16).map V.int)), (p4, .tup ([V.int 1, V.int 2, V.int 3]))]) r36 [1, 2, 3, 4, 5, 6, 7] (by simp) (by decide) rfl (s34.sep [1, 2, 3, 4, 5, 6, 7] [0] (by decide) rfl rfl)
          refine ⟨rfl, ?_⟩
          have s38 : Hs [] H [(p32, .ins A.c_Inode d33 [("kind", V.int (gi ns 0)), ("links", V.int (valN (cutI ns 1 3))), ("size", V.int (valN (cutI ns 3 7))), ("height", V.int (gi ns 7)), ("root", V.int (valN (cutI ns 8 10))), ("parent", V.int (valN (cutI ns 10 12)))])] _ := (s37.pick [0] (by decide) (by walk_at "finL"))
          exact fin (kq p32 d33 _ s38 ) (by rfl)
    · obtain ⟨a, ns, rfl, hS, hl, hb, kq⟩ := h
      have hUn := hu_of hRm
      have s0 : Hs [] H [] H := Hs.start H
      refine ⟨_, (pss_cons (ps_if (pw_or (pt_cmpR op_notIn_seq (pe_ix ix_list (pv 0) pe_int (fun _ _ => rfl)) (pe_tup (pa_cons (pe_glob (v := .int 1) (by rfl) T.k_FILE (by exact ⟨_, rfl⟩)) (pa_cons (pe_glob (v := .int 2) (by rfl) T.k_DIRECTORY (by exact ⟨_, rfl⟩)) (pa_cons (pe_glob (v := .int 3) (by rfl) T.k_LINK (by exact ⟨_, rfl⟩)) pa_nil)))) (by with_unfolding_all rfl)) (pw_or1 (pt_val (pe_callB (cr_anyI rfl) (by rfl) T.z_any (by decide +kernel) (pa_cons (pe_slice sl_list (pv 0) (po_some pe_int) (po_some pe_int)) pa_nil)) (fun _ => rfl)))).pt (pss_cons (ps_ret pe_non) pss_nil) pss_nil) (pss_cons ps_never (pss_cons ps_never (pss_cons ps_never pss_nil)))), ?_⟩
      refine c_sig [some (V.ref a), none, none] rfl ?_
      refine c_ifS ?_
      refine c_or ?_
      refine c_test ?_
      refine c_op ?_
      obtain ⟨n41, en41⟩ : ∃ n : Int, n = (gi ns 0) := ⟨_, rfl⟩
      refine (vis (vixL (vv 0 rfl) vc (xs := (ns.map V.int)) (s0.sq hS) (at_gi (by walk_at "side") (by walk_at "side"))) (congrArg V.int en41.symm)) _ ?_
      refine c_tup ?_
      refine c_cons ?_
      refine vc _ ?_
      refine c_cons ?_
      refine vc _ ?_
      refine c_cons ?_
      refine vc _ ?_
      refine c_nil ?_
      refine ⟨sz1 (by show 3 ≤ 1000000; decide), fun p42 np42 => ?_⟩
      have s43 : Hs [] H [(p42, .tup ([V.int 1, V.int 2, V.int 3]))] _ := s0.new np42 (.tup ([V.int 1, V.int 2, V.int 3]))
      refine r_notin (ns := ([1, 2, 3] : List Int)) (.inr (s43.t 0 rfl)) ?_
      refine ⟨_, rfl, ?_⟩
      refine c_ite (p := ¬ (n41 ∈ ([1, 2, 3] : List Int))) (fun h40 => ?_) (fun h40 => ?_)
      · -- yes
        simp only [List.mem_cons, List.not_mem_nil, or_false, Decidable.not_not] at h40
        refine iteT ?_
        refine s_ret vc ?_
        have s44 : Hs [] H [] _ := (s43.pick [] (by decide) (by walk_at "finL"))
        exact fin (kq  _ s44 ) (by rfl)
      · -- no
        simp only [List.mem_cons, List.not_mem_nil, or_false, Decidable.not_not] at h40
        refine c_tB ?_
        refine c_cb ?_
        refine c_cons ?_
        refine (vv 0 rfl) _ ((vp1 vc) _ ((vp1 vc) _ (r_slL (s43.sq hS) (by show (0 : Int) ≤ 12; walk_at "side") (by show (12 : Int) ≤ (ns.length : Int); walk_at "side") (by show (0 : Int) ≤ 16; walk_at "side") (by show (16 : Int) ≤ (ns.length : Int); walk_at "side") fun p46 np46 => ?_)))
        have s47 : Hs [] H [(p46, .lst ((cutI ns 12 16).map V.int)), (p42, .tup ([V.int 1, V.int 2, V.int 3]))] _ := s43.new np46 (.lst ((cutI ns 12 16).map V.int))
        refine c_nil ?_
        refine ⟨_, (cutI ns 12 16), rfl, (s47.l 0 rfl), ?_⟩
        refine ⟨_, rfl, ?_⟩
        refine c_iteB (fun h45 => ?_) (fun h45 => ?_)
        · -- yes
          refine s_ret vc ?_
          have s48 : Hs [] H [] _ := (s47.pick [] (by decide) (by walk_at "finL"))
          exact fin (kq  _ s48 ) (by rfl)
        · -- no
          refine s_nxs ?_
          exact absurd ⟨by omega, by simp_all⟩ hb
def sp__law_row (K : PySem.W.Frag) (A : Ads) : Sp := fun vs H Q _ => ∃ (a : Addr) (ns : List Int) (k : Int), vs = [V.ref a, V.int k] ∧ (SqL K H a (ns.map V.int)) ∧ (0 ≤ k) ∧ Q (V.int (rowG ns k)) H
theorem ok__law_row (T : Txt K mg A) : FnOk P w K mg base CX0 1 A.a__law_row A.d__law_row ["_law_script", "_law_k"] (sp__law_row K A) := by
  refine T.F__law_row.ok sc__law_row (fun vs H Q E h => ?_) (fun cdv A' outer s H vs Q E hRm h => ?_)
  · obtain ⟨a, ns, k, rfl, _⟩ := h
    rfl
  · obtain ⟨a, ns, k, rfl, hS, h0, kq⟩ := h
    have hUn := hu_of hRm
    have s0 : Hs [] H [] H := Hs.start H
    refine ⟨_, (pss_cons (ps_set (i := 2) sc__law_row.nd rfl (.inl rfl) (pv 1)) (pss_cons (ps_if (pt_cmpR op_gt (pe_callB call_len_seq (by rfl) T.z_len PySem.boot_len (pa_cons (pv 0) pa_nil)) pe_int (nomark _)) (pss_cons (ps_set (i := 2) sc__law_row.nd rfl (.inl rfl) (pe_callTy call_int1 (by rfl) T.z_int (by decide +kernel) (pa_cons (pe_ix ix_list (pv 0) (pe_op op_mod (pv 1) (pe_callB call_len_seq (by rfl) T.z_len PySem.boot_len (pa_cons (pv 0) pa_nil))) (fun _ _ => rfl)) pa_nil))) pss_nil) pss_nil) (pss_cons (ps_if (pt_cmpR op_lt (pv 2) pe_int (nomark _)) (pss_cons (ps_set (i := 2) sc__law_row.nd rfl (.inl rfl) (pe_op op_sub (pe_op op_mul (pe_un un_neg pe_int) (pv 2)) pe_int)) pss_nil) pss_nil) (pss_cons (ps_if (pw_and (pt_cmpR op_lt (pv 1) (pe_callB call_len_seq (by rfl) T.z_len PySem.boot_len (pa_cons (pv 0) pa_nil)) (nomark _)) (pw_and1 (pt_cmpR op_ge (pv 2) (pe_op op_pow pe_int pe_int) (nomark _)))).pt (pss_cons (ps_ret (pv 2)) pss_nil) pss_nil) (pss_cons (ps_set (i := 3) sc__law_row.nd rfl (.inl rfl) (pe_op op_mod (pe_callTy call_int1 (by rfl) T.z_int (by decide +kernel) (pa_cons (pe_op op_add (pe_op op_add (pe_op op_mul (pv 2) pe_int) (pe_op op_mul (pv 1) pe_int)) pe_int) pa_nil)) pe_int)) (pss_cons (ps_set (i := 4) sc__law_row.nd rfl (.inl rfl) (pe_op op_mod (pe_callTy call_int1 (by rfl) T.z_int (by decide +kernel) (pa_cons (pe_op op_add (pe_op op_add (pe_op op_add (pe_op op_mul (pv 3) pe_int) (pv 2)) (pe_op op_mul (pv 1) pe_int)) pe_int) pa_nil)) pe_int)) (pss_cons (ps_set (i := 3) sc__law_row.nd rfl (.inl rfl) (pe_op op_mod (pe_callTy call_int1 (by rfl) T.z_int (by decide +kernel) (pa_cons (pe_op op_add (pe_op op_add (pe_op op_mul (pv 3) pe_int) (pe_op op_mul (pv 4) pe_int)) (pv 1)) pa_nil)) pe_int)) (pss_cons (ps_ret (pe_op op_add (pe_op op_mul (pv 4) pe_int) (pv 3))) pss_nil)))))))), ?_⟩
    refine c_sig [some (V.ref a), some (V.int k), none, none, none] rfl ?_
    refine s_set [some (V.ref a), some (V.int k), some (V.int k), none, none] (vv 1 rfl) rfl ?_
    obtain ⟨n2, en2⟩ : ∃ n : Int, n = (if (ns.length : Int) > 0 then gi ns (k % (ns.length : Int)) else k) := ⟨_, rfl⟩
    refine s_ifset [some (V.ref a), some (V.int k), some (V.int n2), none, none] (.int n2) (vtest (v0 (g := fun i j => .bl (decide (j < i))) (vis (vlenL (vv 0 rfl) (xs := ns.map V.int) (s0.sq hS)) (congrArg (fun n : Nat => V.int (n : Int)) (List.length_map ..))) vc)) (fun h1 => vis (vint (vixL (vv 0 rfl) (v1 (C := fun _ j => 0 < j) (g := fun i j => .int (i % j)) (by walk_at "side") (vv 1 rfl) (vis (vlenL (vv 0 rfl) (xs := ns.map V.int) (s0.sq hS)) (congrArg (fun n : Nat => V.int (n : Int)) (List.length_map ..)))) (xs := (ns.map V.int)) (s0.sq hS) (at_gi (by walk_at "side") (by walk_at "side")))) (congrArg V.int (by rw [en2, if_pos h1]))) rfl (fun h1 => by rw [en2, if_neg h1]) ?_
    obtain ⟨n4, en4⟩ : ∃ n : Int, n = (if n2 < 0 then ((-2) * n2) - 1 else n2) := ⟨_, rfl⟩
    refine s_ifset [some (V.ref a), some (V.int k), some (V.int n4), none, none] (.int n4) (vtest (v0 (g := fun i j => .bl (decide (i < j))) (vv 2 rfl) vc)) (fun h3 => vis (v0 (g := fun i j => .int (i - j)) (v1 (C := CMul) (g := fun i j => .int (i * j)) (.inl (by walk_at "cmul")) (vun (g := fun i => .int (-i)) vc) (vv 2 rfl)) vc) (congrArg V.int (by rw [en4, if_pos h3]))) rfl (fun h3 => by rw [en4, if_neg h3]) ?_
    refine s_if (p := (k < (ns.length : Int)) ∧ (n4 ≥ 1000000000)) (aand (vtest (v0 (g := fun i j => .bl (decide (i < j))) (vv 1 rfl) (vis (vlenL (vv 0 rfl) (xs := ns.map V.int) (s0.sq hS)) (congrArg (fun n : Nat => V.int (n : Int)) (List.length_map ..))))) (fun hc => (vtest (v0 (g := fun i j => .bl (decide (j ≤ i))) (vv 2 rfl) (vis (v1 (C := CPow) (g := fun i j => .int (i ^ j.toNat)) ⟨by decide, by decide, by decide⟩ vc vc) (w := .int 1000000000) (by rfl)))))) (fun h5 => ?_) (fun h5 => ?_)
    · -- then line 49
      refine s_ret (vv 2 rfl) ?_
      exact fin kq (by (subst_vars; first | exact congrArg V.int (if_pos (by assumption)).symm | exact congrArg V.int (if_neg (by assumption)).symm))
    · -- else line 49
      refine s_nxs ?_
      obtain ⟨n6, en6⟩ : ∃ n : Int, n = ((((n4 * 48271) + (k * 69621)) + 11) % 2147483647) := ⟨_, rfl⟩
      have en60 : 0 ≤ n6 := by rw [en6]; exact Int.emod_nonneg _ (by walk_at "side")
      have en61 : n6 < 2147483647 := by rw [en6]; exact Int.emod_lt_of_pos _ (by walk_at "side")
      refine s_set [some (V.ref a), some (V.int k), some (V.int n4), some (V.int n6), none] (vis (v1 (C := fun _ j => 0 < j) (g := fun i j => .int (i % j)) (by walk_at "side") (vint (v0 (g := fun i j => .int (i + j)) (v0 (g := fun i j => .int (i + j)) (v1 (C := CMul) (g := fun i j => .int (i * j)) (.inr (by walk_at "cmul")) (vv 2 rfl) vc) (v1 (C := CMul) (g := fun i j => .int (i * j)) (.inr (by walk_at "cmul")) (vv 1 rfl) vc)) vc)) vc) (congrArg V.int en6.symm)) rfl ?_
      obtain ⟨n7, en7⟩ : ∃ n : Int, n = (((((n6 * 40692) + n4) + (k * 16807)) + 5) % 2147483399) := ⟨_, rfl⟩
      have en70 : 0 ≤ n7 := by rw [en7]; exact Int.emod_nonneg _ (by walk_at "side")
      have en71 : n7 < 2147483399 := by rw [en7]; exact Int.emod_lt_of_pos _ (by walk_at "side")
      refine s_set [some (V.ref a), some (V.int k), some (V.int n4), some (V.int n6), some (V.int n7)] (vis (v1 (C := fun _ j => 0 < j) (g := fun i j => .int (i % j)) (by walk_at "side") (vint (v0 (g := fun i j => .int (i + j)) (v0 (g := fun i j => .int (i + j)) (v0 (g := fun i j => .int (i + j)) (v1 (C := CMul) (g := fun i j => .int (i * j)) (.inr (by walk_at "cmul")) (vv 3 rfl) vc) (vv 2 rfl)) (v1 (C := CMul) (g := fun i j => .int (i * j)) (.inr (by walk_at "cmul")) (vv 1 rfl) vc)) vc)) vc) (congrArg V.int en7.symm)) rfl ?_
      obtain ⟨n8, en8⟩ : ∃ n : Int, n = ((((n6 * 69621) + (n7 * 7)) + k) % 2147483647) := ⟨_, rfl⟩
      have en80 : 0 ≤ n8 := by rw [en8]; exact Int.emod_nonneg _ (by walk_at "side")
      have en81 : n8 < 2147483647 := by rw [en8]; exact Int.emod_lt_of_pos _ (by walk_at "side")
      refine s_set [some (V.ref a), some (V.int k), some (V.int n4), some (V.int n8), some (V.int n7)] (vis (v1 (C := fun _ j => 0 < j) (g := fun i j => .int (i % j)) (by walk_at "side") (vint (v0 (g := fun i j => .int (i + j)) (v0 (g := fun i j => .int (i + j)) (v1 (C := CMul) (g := fun i j => .int (i * j)) (.inr (by walk_at "cmul")) (vv 3 rfl) vc) (v1 (C := CMul) (g := fun i j => .int (i * j)) (.inr (by walk_at "cmul")) (vv 4 rfl) vc)) (vv 1 rfl))) vc) (congrArg V.int en8.symm)) rfl ?_
      refine s_ret (v0 (g := fun i j => .int (i + j)) (v1 (C := CMul) (g := fun i j => .int (i * j)) (.inr (by walk_at "cmul")) (vv 4 rfl) vc) (vv 3 rfl)) ?_
      exact fin kq (by (subst_vars; first | exact congrArg V.int (if_pos (by assumption)).symm | exact congrArg V.int (if_neg (by assumption)).symm))
def sp__law_is_integer (K : PySem.W.Frag) (A : Ads) : Sp := fun vs H Q _ => ∃ (n : Int), vs = [V.int n] ∧ Q (V.bl true) H
theorem ok__law_is_integer (T : Txt K mg A) : FnOk P w K mg base CX0 1 A.a__law_is_integer A.d__law_is_integer ["_law_actual"] (sp__law_is_integer K A) := by
  refine T.F__law_is_integer.ok sc__law_is_integer (fun vs H Q E h => ?_) (fun cdv A' outer s H vs Q E hRm h => ?_)
  · obtain ⟨n, rfl, _⟩ := h
    rfl
  · obtain ⟨n, rfl, kq⟩ := h
    have hUn := hu_of hRm
    have s0 : Hs [] H [] H := Hs.start H
    refine ⟨_, (pss_cons (ps_ret (pe_and (pe_callB call_isi (by rfl) T.z_isinstance (by decide +kernel) (pa_cons (pv 0) (pa_cons (pe_bltn (v := .ty "int") (u := .type "int") (by rfl) T.z_int (by decide +kernel) rfl) pa_nil))) (pe_one (pe_not (pe_callB call_isi (by rfl) T.z_isinstance (by decide +kernel) (pa_cons (pv 0) (pa_cons (pe_bltn (v := .ty "bool") (u := .type "bool") (by rfl) T.z_bool (by decide +kernel) rfl) pa_nil))))))) pss_nil), ?_⟩
    refine c_sig [some (V.int n)] rfl ?_
    refine s_ret (vand (vbool (visi (b := true) (tu := .type "int") (vv 0 rfl) vc (ClsV.ty "int") (.base (.int _)) (kit_ty (by decide +kernel)))) (fun hc => (vnot (vbool (visi (b := false) (tu := .type "int") (vv 0 rfl) vc (ClsV.ty "bool") (.base (.int _)) (kit_ty (by decide +kernel))))))) ?_
    exact fin kq (by rfl)
def sp__law_is (K : PySem.W.Frag) (A : Ads) : Sp := fun vs H Q _ => ∃ (a b : Bool), vs = [V.bl a, V.bl b] ∧ Q (V.bl (decide (a = b))) H
theorem ok__law_is (T : Txt K mg A) : FnOk P w K mg base CX0 1 A.a__law_is A.d__law_is ["_law_actual", "_law_due"] (sp__law_is K A) := by
  refine T.F__law_is.ok sc__law_is (fun vs H Q E h => ?_) (fun cdv A' outer s H vs Q E hRm h => ?_)
  · obtain ⟨a, b, rfl, _⟩ := h
    rfl
  · obtain ⟨a, b, rfl, kq⟩ := h
    have hUn := hu_of hRm
    have s0 : Hs [] H [] H := Hs.start H
    refine ⟨_, (pss_cons (ps_ret (pe_and (pe_callB call_isi (by rfl) T.z_isinstance (by decide +kernel) (pa_cons (pv 0) (pa_cons (pe_bltn (v := .ty "bool") (u := .type "bool") (by rfl) T.z_bool (by decide +kernel) rfl) pa_nil))) (pe_one (pe_cmpR op_eq (pv 0) (pv 1) (nomark _))))) pss_nil), ?_⟩
    refine c_sig [some (V.bl a), some (V.bl b)] rfl ?_
    refine s_ret (vand (vbool (visi (b := true) (tu := .type "bool") (vv 0 rfl) vc (ClsV.ty "bool") (.base (.bl _)) (kit_ty (by decide +kernel)))) (fun hc => (veqb (vv 0 rfl) (vv 1 rfl)))) ?_
    exact fin kq (by exact congrArg V.bl (decide_eq_decide.mpr (by simp)))
def sp__law_fields (K : PySem.W.Frag) (A : Ads) : Sp := fun vs H Q _ => ∃ (x dx : Addr) (ik il iz ih ir ip : Int), vs = [V.ref x] ∧ (H x = some (.ins A.c_Inode dx [("kind", V.int ik), ("links", V.int il), ("size", V.int iz), ("height", V.int ih), ("root", V.int ir), ("parent", V.int ip)])) ∧ ∀ (p : Addr) (H' : Hp), Hs [] H [(p, .lst ([V.int ik, V.int il, V.int iz, V.int ih, V.int ir, V.int ip]))] H' → Q (V.ref p) H'
theorem ok__law_fields (T : Txt K mg A) : FnOk P w K mg base CX0 1 A.a__law_fields A.d__law_fields ["_law_inode"] (sp__law_fields K A) := by
  refine T.F__law_fields.ok sc__law_fields (fun vs H Q E h => ?_) (fun cdv A' outer s H vs Q E hRm h => ?_)
  · obtain ⟨x, dx, ik, il, iz, ih, ir, ip, rfl, _⟩ := h
    rfl
  · obtain ⟨x, dx, ik, il, iz, ih, ir, ip, rfl, hL, kq⟩ := h
    have hUn := hu_of hRm
    have s0 : Hs [] H [] H := Hs.start H
    refine ⟨_, (pss_cons (ps_ret (pe_lst (pa_cons (pe_fld (pv 0) rfl) (pa_cons (pe_fld (pv 0) rfl) (pa_cons (pe_fld (pv 0) rfl) (pa_cons (pe_fld (pv 0) rfl) (pa_cons (pe_fld (pv 0) rfl) (pa_cons (pe_fld (pv 0) rfl) pa_nil)))))))) pss_nil), ?_⟩
    refine c_sig [some (V.ref x)] rfl ?_
    refine c_ret ?_
    refine c_lst ?_
    refine c_cons ?_
    refine (vfld (vv 0 rfl) (s0.same _ _ hL) T.cl_Inode T.na_Inode_kind (by rfl)) _ ?_
    refine c_cons ?_
    refine (vfld (vv 0 rfl) (s0.same _ _ hL) T.cl_Inode T.na_Inode_links (by rfl)) _ ?_
    refine c_cons ?_
    refine (vfld (vv 0 rfl) (s0.same _ _ hL) T.cl_Inode T.na_Inode_size (by rfl)) _ ?_
    refine c_cons ?_
    refine (vfld (vv 0 rfl) (s0.same _ _ hL) T.cl_Inode T.na_Inode_height (by rfl)) _ ?_
    refine c_cons ?_
    refine (vfld (vv 0 rfl) (s0.same _ _ hL) T.cl_Inode T.na_Inode_root (by rfl)) _ ?_
    refine c_cons ?_
    refine (vfld (vv 0 rfl) (s0.same _ _ hL) T.cl_Inode T.na_Inode_parent (by rfl)) _ ?_
    refine c_nil ?_
    refine ⟨sz1 (by show 6 ≤ 1000000; decide), fun p1 np1 => ?_⟩
    have s2 : Hs [] H [(p1, .lst ([V.int ik, V.int il, V.int iz, V.int ih, V.int ir, V.int ip]))] _ := s0.new np1 (.lst ([V.int ik, V.int il, V.int iz, V.int ih, V.int ir, V.int ip]))
    have s3 : Hs [] H [(p1, .lst ([V.int ik, V.int il, V.int iz, V.int ih, V.int ir, V.int ip]))] _ := (s2.pick [0] (by decide) (by walk_at "finL"))
    exact fin (kq p1 _ s3 ) (by rfl)
def sp__law_octets (K : PySem.W.Frag) (A : Ads) : Sp := fun vs H Q _ => ∃ (a : Addr) (fa fb fc fd fe ff : Int), vs = [V.ref a] ∧ (SqL K H a [V.int fa, V.int fb, V.int fc, V.int fd, V.int fe, V.int ff]) ∧ (InoF fa fb fc fd fe ff) ∧ ∀ (p : Addr) (ws : List Int) (H' : Hp), Hs [] H [(p, .lst (ws.map V.int))] H' → (ws = encN fa fb fc fd fe ff) → (ws.length = 16) → Q (V.ref p) H'
theorem ok__law_octets (T : Txt K mg A) : FnOk P w K mg base CX0 1 A.a__law_octets A.d__law_octets ["_law_fields_here"] (sp__law_octets K A) := by
  refine T.F__law_octets.ok sc__law_octets (fun vs H Q E h => ?_) (fun cdv A' outer s H vs Q E hRm h => ?_)
  · obtain ⟨a, fa, fb, fc, fd, fe, ff, rfl, _⟩ := h
    rfl
  · obtain ⟨a, fa, fb, fc, fd, fe, ff, rfl, hS, hok, kq⟩ := h
    have hUn := hu_of hRm
    have s0 : Hs [] H [] H := Hs.start H
    refine ⟨_, (pss_cons (ps_set (i := 1) sc__law_octets.nd rfl (.inl rfl) (pe_lst (pa_cons (pe_ix ix_list (pv 0) pe_int (fun _ _ => rfl)) pa_nil))) (pss_cons (ps_set (i := 2) sc__law_octets.nd rfl (.inl rfl) (pe_lst (pa_cons pe_int (pa_cons pe_int (pa_cons pe_int (pa_cons pe_int (pa_cons pe_int (pa_cons pe_int pa_nil)))))))) (pss_cons (ps_for PassesOwn.never rfl (pi_range2 rfl T.z_range (pa_cons pe_int (pa_cons pe_int pa_nil))) (pg_name (i := 3) sc__law_octets.nd rfl (.inl rfl)) (pss_cons (ps_set (i := 4) sc__law_octets.nd rfl (.inl rfl) (pe_ix ix_list (pv 0) (pv 3) (fun _ _ => rfl))) (pss_cons (ps_for PassesOwn.never rfl (pi_range1 rfl T.z_range (pa_cons (pe_ix ix_list (pv 2) (pv 3) (fun _ _ => rfl)) pa_nil)) (pg_name (i := 5) sc__law_octets.nd rfl (.inl rfl)) (pss_cons (ps_expr (pe_bm PySem.F.plainAttrs_list PySem.F.slot_list_append PySem.F.type_list_append mt_append (pv 1) (pa_cons (pe_op op_mod (pv 4) pe_int) pa_nil))) (pss_cons (ps_set (i := 4) sc__law_octets.nd rfl (.inl rfl) (pe_op op_fdiv (pv 4) pe_int)) pss_nil))) pss_nil))) (pss_cons (ps_ret (pe_op op_cat (pv 1) (pe_lst (pa_cons pe_int (pa_cons pe_int (pa_cons pe_int (pa_cons pe_int pa_nil))))))) pss_nil)))), ?_⟩
    refine c_sig [some (V.ref a), none, none, none, none, none] rfl ?_
    refine c_set ?_
    refine c_lst ?_
    refine c_cons ?_
    refine (vixL (vv 0 rfl) vc (xs := _) (s0.sq hS) (by rfl)) _ ?_
    refine c_nil ?_
    refine ⟨sz1 (by show 1 ≤ 1000000; decide), fun p1 np1 => ?_⟩
    have s2 : Hs [] H [(p1, .lst ([V.int fa]))] _ := s0.new np1 (.lst ([V.int fa]))
    refine k_set [some (V.ref a), some (V.ref p1), none, none, none, none] rfl ?_
    refine c_set ?_
    refine c_lst ?_
    refine c_cons ?_
    refine vc _ ?_
    refine c_cons ?_
    refine vc _ ?_
    refine c_cons ?_
    refine vc _ ?_
    refine c_cons ?_
    refine vc _ ?_
    refine c_cons ?_
    refine vc _ ?_
    refine c_cons ?_
    refine vc _ ?_
    refine c_nil ?_
    refine ⟨sz1 (by show 6 ≤ 1000000; decide), fun p3 np3 => ?_⟩
    have s4 : Hs [] H [(p3, .lst ([V.int 0, V.int 2, V.int 4, V.int 1, V.int 2, V.int 2])), (p1, .lst ([V.int fa]))] _ := s2.new np3 (.lst ([V.int 0, V.int 2, V.int 4, V.int 1, V.int 2, V.int 2]))
    refine k_set [some (V.ref a), some (V.ref p1), some (V.ref p3), none, none, none] rfl ?_
    refine s_unrR2 (lo := 1) (m := 6) (n := 5) (va vc (va vc va0)) (by decide) (by decide) (by decide) ?_
    refine u_nextL ?_
    refine c_sig [some (V.ref a), some (V.ref p1), some (V.ref p3), some (V.int 1), none, none] rfl ?_
    refine s_set [some (V.ref a), some (V.ref p1), some (V.ref p3), some (V.int 1), some (V.int fb), none] (vixL (vv 0 rfl) (vv 3 rfl) (xs := _) (s4.sq hS) (by rfl)) rfl ?_
    refine s_unrR1 (m := 2) (va (vixL (vv 2 rfl) (vv 3 rfl) (xs := _) (s4.l 0 rfl) (by rfl)) va0) (by decide) ?_
    refine u_next ?_
    refine c_sig [some (V.ref a), some (V.ref p1), some (V.ref p3), some (V.int 1), some (V.int fb), some (V.int 0)] rfl ?_
    obtain ⟨n5, en5⟩ : ∃ n : Int, n = (fb % 256) := ⟨_, rfl⟩
    have en50 : 0 ≤ n5 := by rw [en5]; exact Int.emod_nonneg _ (by walk_at "side")
    have en51 : n5 < 256 := by rw [en5]; exact Int.emod_lt_of_pos _ (by walk_at "side")
    refine s_app (xs := ([V.int fa])) (s4.mem 1 rfl) (vv 1 rfl) (vis (v1 (C := fun _ j => 0 < j) (g := fun i j => .int (i % j)) (by walk_at "side") (vv 4 rfl) vc) (congrArg V.int en5.symm)) (by walk_at "side") ?_
    have s6 : Hs [] H [(p3, .lst ([V.int 0, V.int 2, V.int 4, V.int 1, V.int 2, V.int 2])), (p1, .lst ([V.int fa, V.int n5]))] _ := s4.wr 1 (.lst ([V.int fa, V.int n5])) rfl
    obtain ⟨n7, en7⟩ : ∃ n : Int, n = (fb / 256) := ⟨_, rfl⟩
    refine s_set [some (V.ref a), some (V.ref p1), some (V.ref p3), some (V.int 1), some (V.int n7), some (V.int 0)] (vis (v1 (C := CDiv) (g := fun i j => .int (i / j)) ⟨by walk_at "side", by walk_at "side"⟩ (vv 4 rfl) vc) (congrArg V.int en7.symm)) rfl ?_
    refine s_nxu ?_
    refine u_next ?_
    refine c_sig [some (V.ref a), some (V.ref p1), some (V.ref p3), some (V.int 1), some (V.int n7), some (V.int 1)] rfl ?_
    obtain ⟨n8, en8⟩ : ∃ n : Int, n = (n7 % 256) := ⟨_, rfl⟩
    have en80 : 0 ≤ n8 := by rw [en8]; exact Int.emod_nonneg _ (by walk_at "side")
    have en81 : n8 < 256 := by rw [en8]; exact Int.emod_lt_of_pos _ (by walk_at "side")
    refine s_app (xs := ([V.int fa, V.int n5])) (s6.mem 1 rfl) (vv 1 rfl) (vis (v1 (C := fun _ j => 0 < j) (g := fun i j => .int (i % j)) (by walk_at "side") (vv 4 rfl) vc) (congrArg V.int en8.symm)) (by walk_at "side") ?_
    have s9 : Hs [] H [(p3, .lst ([V.int 0, V.int 2, V.int 4, V.int 1, V.int 2, V.int 2])), (p1, .lst ([V.int fa, V.int n5, V.int n8]))] _ := s6.wr 1 (.lst ([V.int fa, V.int n5, V.int n8])) rfl
    obtain ⟨n10, en10⟩ : ∃ n : Int, n = (n7 / 256) := ⟨_, rfl⟩
    refine s_set [some (V.ref a), some (V.ref p1), some (V.ref p3), some (V.int 1), some (V.int n10), some (V.int 1)] (vis (v1 (C := CDiv) (g := fun i j => .int (i / j)) ⟨by walk_at "side", by walk_at "side"⟩ (vv 4 rfl) vc) (congrArg V.int en10.symm)) rfl ?_
    refine s_nxu ?_
    refine u_done ?_
    refine s_nxu ?_
    refine u_nextL ?_
    refine c_sig [some (V.ref a), some (V.ref p1), some (V.ref p3), some (V.int 2), some (V.int n10), some (V.int 1)] rfl ?_
    refine s_set [some (V.ref a), some (V.ref p1), some (V.ref p3), some (V.int 2), some (V.int fc), some (V.int 1)] (vixL (vv 0 rfl) (vv 3 rfl) (xs := _) (s9.sq hS) (by rfl)) rfl ?_
    refine s_unrR1 (m := 4) (va (vixL (vv 2 rfl) (vv 3 rfl) (xs := _) (s9.l 0 rfl) (by rfl)) va0) (by decide) ?_
    refine u_next ?_
    refine c_sig [some (V.ref a), some (V.ref p1), some (V.ref p3), some (V.int 2), some (V.int fc), some (V.int 0)] rfl ?_
    obtain ⟨n11, en11⟩ : ∃ n : Int, n = (fc % 256) := ⟨_, rfl⟩
    have en110 : 0 ≤ n11 := by rw [en11]; exact Int.emod_nonneg _ (by walk_at "side")
    have en111 : n11 < 256 := by rw [en11]; exact Int.emod_lt_of_pos _ (by walk_at "side")
    refine s_app (xs := ([V.int fa, V.int n5, V.int n8])) (s9.mem 1 rfl) (vv 1 rfl) (vis (v1 (C := fun _ j => 0 < j) (g := fun i j => .int (i % j)) (by walk_at "side") (vv 4 rfl) vc) (congrArg V.int en11.symm)) (by walk_at "side") ?_
    have s12 : Hs [] H [(p3, .lst ([V.int 0, V.int 2, V.int 4, V.int 1, V.int 2, V.int 2])), (p1, .lst ([V.int fa, V.int n5, V.int n8, V.int n11]))] _ := s9.wr 1 (.lst ([V.int fa, V.int n5, V.int n8, V.int n11])) rfl
    obtain ⟨n13, en13⟩ : ∃ n : Int, n = (fc / 256) := ⟨_, rfl⟩
    refine s_set [some (V.ref a), some (V.ref p1), some (V.ref p3), some (V.int 2), some (V.int n13), some (V.int 0)] (vis (v1 (C := CDiv) (g := fun i j => .int (i / j)) ⟨by walk_at "side", by walk_at "side"⟩ (vv 4 rfl) vc) (congrArg V.int en13.symm)) rfl ?_
    refine s_nxu ?_
    refine u_next ?_
    refine c_sig [some (V.ref a), some (V.ref p1), some (V.ref p3), some (V.int 2), some (V.int n13), some (V.int 1)] rfl ?_
    obtain ⟨n14, en14⟩ : ∃ n : Int, n = (n13 % 256) := ⟨_, rfl⟩
    have en140 : 0 ≤ n14 := by rw [en14]; exact Int.emod_nonneg _ (by walk_at "side")
    have en141 : n14 < 256 := by rw [en14]; exact Int.emod_lt_of_pos _ (by walk_at "side")
    refine s_app (xs := ([V.int fa, V.int n5, V.int n8, V.int n11])) (s12.mem 1 rfl) (vv 1 rfl) (vis (v1 (C := fun _ j => 0 < j) (g := fun i j => .int (i % j)) (by walk_at "side") (vv 4 rfl) vc) (congrArg V.int en14.symm)) (by walk_at "side") ?_
    have s15 : Hs [] H [(p3, .lst ([V.int 0, V.int 2, V.int 4, V.int 1, V.int 2, V.int 2])), (p1, .lst ([V.int fa, V.int n5, V.int n8, V.int n11, V.int n14]))] _ := s12.wr 1 (.lst ([V.int fa, V.int n5, V.int n8, V.int n11, V.int n14])) rfl
    obtain ⟨n16, en16⟩ : ∃ n : Int, n = (n13 / 256) := ⟨_, rfl⟩
    refine s_set [some (V.ref a), some (V.ref p1), some (V.ref p3), some (V.int 2), some (V.int n16), some (V.int 1)] (vis (v1 (C := CDiv) (g := fun i j => .int (i / j)) ⟨by walk_at "side", by walk_at "side"⟩ (vv 4 rfl) vc) (congrArg V.int en16.symm)) rfl ?_
    refine s_nxu ?_
    refine u_next ?_
    refine c_sig [some (V.ref a), some (V.ref p1), some (V.ref p3), some (V.int 2), some (V.int n16), some (V.int 2)] rfl ?_
    obtain ⟨n17, en17⟩ : ∃ n : Int, n = (n16 % 256) := ⟨_, rfl⟩
    have en170 : 0 ≤ n17 := by rw [en17]; exact Int.emod_nonneg _ (by walk_at "side")
    have en171 : n17 < 256 := by rw [en17]; exact Int.emod_lt_of_pos _ (by walk_at "side")
    refine s_app (xs := ([V.int fa, V.int n5, V.int n8, V.int n11, V.int n14])) (s15.mem 1 rfl) (vv 1 rfl) (vis (v1 (C := fun _ j => 0 < j) (g := fun i j => .int (i % j)) (by walk_at "side") (vv 4 rfl) vc) (congrArg V.int en17.symm)) (by walk_at "side") ?_
    have s18 : Hs [] H [(p3, .lst ([V.int 0, V.int 2, V.int 4, V.int 1, V.int 2, V.int 2])), (p1, .lst ([V.int fa, V.int n5, V.int n8, V.int n11, V.int n14, V.int n17]))] _ := s15.wr 1 (.lst ([V.int fa, V.int n5, V.int n8, V.int n11, V.int n14, V.int n17])) rfl
    obtain ⟨n19, en19⟩ : ∃ n : Int, n = (n16 / 256) := ⟨_, rfl⟩
    refine s_set [some (V.ref a), some (V.ref p1), some (V.ref p3), some (V.int 2), some (V.int n19), some (V.int 2)] (vis (v1 (C := CDiv) (g := fun i j => .int (i / j)) ⟨by walk_at "side", by walk_at "side"⟩ (vv 4 rfl) vc) (congrArg V.int en19.symm)) rfl ?_
    refine s_nxu ?_
    refine u_next ?_
    refine c_sig [some (V.ref a), some (V.ref p1), some (V.ref p3), some (V.int 2), some (V.int n19), some (V.int 3)] rfl ?_
    obtain ⟨n20, en20⟩ : ∃ n : Int, n = (n19 % 256) := ⟨_, rfl⟩
    have en200 : 0 ≤ n20 := by rw [en20]; exact Int.emod_nonneg _ (by walk_at "side")
    have en201 : n20 < 256 := by rw [en20]; exact Int.emod_lt_of_pos _ (by walk_at "side")
    refine s_app (xs := ([V.int fa, V.int n5, V.int n8, V.int n11, V.int n14, V.int n17])) (s18.mem 1 rfl) (vv 1 rfl) (vis (v1 (C := fun _ j => 0 < j) (g := fun i j => .int (i % j)) (by walk_at "side") (vv 4 rfl) vc) (congrArg V.int en20.symm)) (by walk_at "side") ?_
    have s21 : Hs [] H [(p3, .lst ([V.int 0, V.int 2, V.int 4, V.int 1, V.int 2, V.int 2])), (p1, .lst ([V.int fa, V.int n5, V.int n8, V.int n11, V.int n14, V.int n17, V.int n20]))] _ := s18.wr 1 (.lst ([V.int fa, V.int n5, V.int n8, V.int n11, V.int n14, V.int n17, V.int n20])) rfl
    obtain ⟨n22, en22⟩ : ∃ n : Int, n = (n19 / 256) := ⟨_, rfl⟩
    refine s_set [some (V.ref a), some (V.ref p1), some (V.ref p3), some (V.int 2), some (V.int n22), some (V.int 3)] (vis (v1 (C := CDiv) (g := fun i j => .int (i / j)) ⟨by walk_at "side", by walk_at "side"⟩ (vv 4 rfl) vc) (congrArg V.int en22.symm)) rfl ?_
    refine s_nxu ?_
    refine u_done ?_
    refine s_nxu ?_
    refine u_nextL ?_
    refine c_sig [some (V.ref a), some (V.ref p1), some (V.ref p3), some (V.int 3), some (V.int n22), some (V.int 3)] rfl ?_
    refine s_set [some (V.ref a), some (V.ref p1), some (V.ref p3), some (V.int 3), some (V.int fd), some (V.int 3)] (vixL (vv 0 rfl) (vv 3 rfl) (xs := _) (s21.sq hS) (by rfl)) rfl ?_
    refine s_unrR1 (m := 1) (va (vixL (vv 2 rfl) (vv 3 rfl) (xs := _) (s21.l 0 rfl) (by rfl)) va0) (by decide) ?_
    refine u_next ?_
    refine c_sig [some (V.ref a), some (V.ref p1), some (V.ref p3), some (V.int 3), some (V.int fd), some (V.int 0)] rfl ?_
    obtain ⟨n23, en23⟩ : ∃ n : Int, n = (fd % 256) := ⟨_, rfl⟩
    have en230 : 0 ≤ n23 := by rw [en23]; exact Int.emod_nonneg _ (by walk_at "side")
    have en231 : n23 < 256 := by rw [en23]; exact Int.emod_lt_of_pos _ (by walk_at "side")
    refine s_app (xs := ([V.int fa, V.int n5, V.int n8, V.int n11, V.int n14, V.int n17, V.int n20])) (s21.mem 1 rfl) (vv 1 rfl) (vis (v1 (C := fun _ j => 0 < j) (g := fun i j => .int (i % j)) (by walk_at "side") (vv 4 rfl) vc) (congrArg V.int en23.symm)) (by walk_at "side") ?_
    have s24 : Hs [] H [(p3, .lst ([V.int 0, V.int 2, V.int 4, V.int 1, V.int 2, V.int 2])), (p1, .lst ([V.int fa, V.int n5, V.int n8, V.int n11, V.int n14, V.int n17, V.int n20, V.int n23]))] _ := s21.wr 1 (.lst ([V.int fa, V.int n5, V.int n8, V.int n11, V.int n14, V.int n17, V.int n20, V.int n23])) rfl
    obtain ⟨n25, en25⟩ : ∃ n : Int, n = (fd / 256) := ⟨_, rfl⟩
    refine s_set [some (V.ref a), some (V.ref p1), some (V.ref p3), some (V.int 3), some (V.int n25), some (V.int 0)] (vis (v1 (C := CDiv) (g := fun i j => .int (i / j)) ⟨by walk_at "side", by walk_at "side"⟩ (vv 4 rfl) vc) (congrArg V.int en25.symm)) rfl ?_
    refine s_nxu ?_
    refine u_done ?_
    refine s_nxu ?_
    refine u_nextL ?_
    refine c_sig [some (V.ref a), some (V.ref p1), some (V.ref p3), some (V.int 4), some (V.int n25), some (V.int 0)] rfl ?_
    refine s_set [some (V.ref a), some (V.ref p1), some (V.ref p3), some (V.int 4), some (V.int fe), some (V.int 0)] (vixL (vv 0 rfl) (vv 3 rfl) (xs := _) (s24.sq hS) (by rfl)) rfl ?_
    refine s_unrR1 (m := 2) (va (vixL (vv 2 rfl) (vv 3 rfl) (xs := _) (s24.l 0 rfl) (by rfl)) va0) (by decide) ?_
    refine u_next ?_
    refine c_sig [some (V.ref a), some (V.ref p1), some (V.ref p3), some (V.int 4), some (V.int fe), some (V.int 0)] rfl ?_
    obtain ⟨n26, en26⟩ : ∃ n : Int, n = (fe % 256) := ⟨_, rfl⟩
    have en260 : 0 ≤ n26 := by rw [en26]; exact Int.emod_nonneg _ (by walk_at "side")
    have en261 : n26 < 256 := by rw [en26]; exact Int.emod_lt_of_pos _ (by walk_at "side")
    refine s_app (xs := ([V.int fa, V.int n5, V.int n8, V.int n11, V.int n14, V.int n17, V.int n20, V.int n23])) (s24.mem 1 rfl) (vv 1 rfl) (vis (v1 (C := fun _ j => 0 < j) (g := fun i j => .int (i % j)) (by walk_at "side") (vv 4 rfl) vc) (congrArg V.int en26.symm)) (by walk_at "side") ?_
    have s27 : Hs [] H [(p3, .lst ([V.int 0, V.int 2, V.int 4, V.int 1, V.int 2, V.int 2])), (p1, .lst ([V.int fa, V.int n5, V.int n8, V.int n11, V.int n14, V.int n17, V.int n20, V.int n23, V.int n26]))] _ := s24.wr 1 (.lst ([V.int fa, V.int n5, V.int n8, V.int n11, V.int n14, V.int n17, V.int n20, V.int n23, V.int n26])) rfl
    obtain ⟨n28, en28⟩ : ∃ n : Int, n = (fe / 256) := ⟨_, rfl⟩
    refine s_set [some (V.ref a), some (V.ref p1), some (V.ref p3), some (V.int 4), some (V.int n28), some (V.int 0)] (vis (v1 (C := CDiv) (g := fun i j => .int (i / j)) ⟨by walk_at "side", by walk_at "side"⟩ (vv 4 rfl) vc) (congrArg V.int en28.symm)) rfl ?_
    refine s_nxu ?_
    refine u_next ?_
    refine c_sig [some (V.ref a), some (V.ref p1), some (V.ref p3), some (V.int 4), some (V.int n28), some (V.int 1)] rfl ?_
    obtain ⟨n29, en29⟩ : ∃ n : Int, n = (n28 % 256) := ⟨_, rfl⟩
    have en290 : 0 ≤ n29 := by rw [en29]; exact Int.emod_nonneg _ (by walk_at "side")
    have en291 : n29 < 256 := by rw [en29]; exact Int.emod_lt_of_pos _ (by walk_at "side")
    refine s_app (xs := ([V.int fa, V.int n5, V.int n8, V.int n11, V.int n14, V.int n17, V.int n20, V.int n23, V.int n26])) (s27.mem 1 rfl) (vv 1 rfl) (vis (v1 (C := fun _ j => 0 < j) (g := fun i j => .int (i % j)) (by walk_at "side") (vv 4 rfl) vc) (congrArg V.int en29.symm)) (by walk_at "side") ?_
    have s30 : Hs [] H [(p3, .lst ([V.int 0, V.int 2, V.int 4, V.int 1, V.int 2, V.int 2])), (p1, .lst ([V.int fa, V.int n5, V.int n8, V.int n11, V.int n14, V.int n17, V.int n20, V.int n23, V.int n26, V.int n29]))] _ := s27.wr 1 (.lst ([V.int fa, V.int n5, V.int n8, V.int n11, V.int n14, V.int n17, V.int n20, V.int n23, V.int n26, V.int n29])) rfl
    obtain ⟨n31, en31⟩ : ∃ n : Int, n = (n28 / 256) := ⟨_, rfl⟩
    refine s_set [some (V.ref a), some (V.ref p1), some (V.ref p3), some (V.int 4), some (V.int n31), some (V.int 1)] (vis (v1 (C := CDiv) (g := fun i j => .int (i / j)) ⟨by walk_at "side", by walk_at "side"⟩ (vv 4 rfl) vc) (congrArg V.int en31.symm)) rfl ?_
    refine s_nxu ?_
    refine u_done ?_
    refine s_nxu ?_
    refine u_nextL ?_
    refine c_sig [some (V.ref a), some (V.ref p1), some (V.ref p3), some (V.int 5), some (V.int n31), some (V.int 1)] rfl ?_
    refine s_set [some (V.ref a), some (V.ref p1), some (V.ref p3), some (V.int 5), some (V.int ff), some (V.int 1)] (vixL (vv 0 rfl) (vv 3 rfl) (xs := _) (s30.sq hS) (by rfl)) rfl ?_
    refine s_unrR1 (m := 2) (va (vixL (vv 2 rfl) (vv 3 rfl) (xs := _) (s30.l 0 rfl) (by rfl)) va0) (by decide) ?_
    refine u_next ?_
    refine c_sig [some (V.ref a), some (V.ref p1), some (V.ref p3), some (V.int 5), some (V.int ff), some (V.int 0)] rfl ?_
    obtain ⟨n32, en32⟩ : ∃ n : Int, n = (ff % 256) := ⟨_, rfl⟩
    have en320 : 0 ≤ n32 := by rw [en32]; exact Int.emod_nonneg _ (by walk_at "side")
    have en321 : n32 < 256 := by rw [en32]; exact Int.emod_lt_of_pos _ (by walk_at "side")
    refine s_app (xs := ([V.int fa, V.int n5, V.int n8, V.int n11, V.int n14, V.int n17, V.int n20, V.int n23, V.int n26, V.int n29])) (s30.mem 1 rfl) (vv 1 rfl) (vis (v1 (C := fun _ j => 0 < j) (g := fun i j => .int (i % j)) (by walk_at "side") (vv 4 rfl) vc) (congrArg V.int en32.symm)) (by walk_at "side") ?_
    have s33 : Hs [] H [(p3, .lst ([V.int 0, V.int 2, V.int 4, V.int 1, V.int 2, V.int 2])), (p1, .lst ([V.int fa, V.int n5, V.int n8, V.int n11, V.int n14, V.int n17, V.int n20, V.int n23, V.int n26, V.int n29, V.int n32]))] _ := s30.wr 1 (.lst ([V.int fa, V.int n5, V.int n8, V.int n11, V.int n14, V.int n17, V.int n20, V.int n23, V.int n26, V.int n29, V.int n32])) rfl
    obtain ⟨n34, en34⟩ : ∃ n : Int, n = (ff / 256) := ⟨_, rfl⟩
    refine s_set [some (V.ref a), some (V.ref p1), some (V.ref p3), some (V.int 5), some (V.int n34), some (V.int 0)] (vis (v1 (C := CDiv) (g := fun i j => .int (i / j)) ⟨by walk_at "side", by walk_at "side"⟩ (vv 4 rfl) vc) (congrArg V.int en34.symm)) rfl ?_
    refine s_nxu ?_
    refine u_next ?_
    refine c_sig [some (V.ref a), some (V.ref p1), some (V.ref p3), some (V.int 5), some (V.int n34), some (V.int 1)] rfl ?_
    obtain ⟨n35, en35⟩ : ∃ n : Int, n = (n34 % 256) := ⟨_, rfl⟩
    have en350 : 0 ≤ n35 := by rw [en35]; exact Int.emod_nonneg _ (by walk_at "side")
    have en351 : n35 < 256 := by rw [en35]; exact Int.emod_lt_of_pos _ (by walk_at "side")
    refine s_app (xs := ([V.int fa, V.int n5, V.int n8, V.int n11, V.int n14, V.int n17, V.int n20, V.int n23, V.int n26, V.int n29, V.int n32])) (s33.mem 1 rfl) (vv 1 rfl) (vis (v1 (C := fun _ j => 0 < j) (g := fun i j => .int (i % j)) (by walk_at "side") (vv 4 rfl) vc) (congrArg V.int en35.symm)) (by walk_at "side") ?_
    have s36 : Hs [] H [(p3, .lst ([V.int 0, V.int 2, V.int 4, V.int 1, V.int 2, V.int 2])), (p1, .lst ([V.int fa, V.int n5, V.int n8, V.int n11, V.int n14, V.int n17, V.int n20, V.int n23, V.int n26, V.int n29, V.int n32, V.int n35]))] _ := s33.wr 1 (.lst ([V.int fa, V.int n5, V.int n8, V.int n11, V.int n14, V.int n17, V.int n20, V.int n23, V.int n26, V.int n29, V.int n32, V.int n35])) rfl
    obtain ⟨n37, en37⟩ : ∃ n : Int, n = (n34 / 256) := ⟨_, rfl⟩
    refine s_set [some (V.ref a), some (V.ref p1), some (V.ref p3), some (V.int 5), some (V.int n37), some (V.int 1)] (vis (v1 (C := CDiv) (g := fun i j => .int (i / j)) ⟨by walk_at "side", by walk_at "side"⟩ (vv 4 rfl) vc) (congrArg V.int en37.symm)) rfl ?_
    refine s_nxu ?_
    refine u_done ?_
    refine s_nxu ?_
    refine u_doneL ?_
    refine c_ret ?_
    refine c_op ?_
    refine (vv 1 rfl) _ ?_
    refine c_lst ?_
    refine c_cons ?_
    refine vc _ ?_
    refine c_cons ?_
    refine vc _ ?_
    refine c_cons ?_
    refine vc _ ?_
    refine c_cons ?_
    refine vc _ ?_
    refine c_nil ?_
    refine ⟨sz1 (by show 4 ≤ 1000000; decide), fun p38 np38 => ?_⟩
    have s39 : Hs [] H [(p38, .lst ([V.int 0, V.int 0, V.int 0, V.int 0])), (p3, .lst ([V.int 0, V.int 2, V.int 4, V.int 1, V.int 2, V.int 2])), (p1, .lst ([V.int fa, V.int n5, V.int n8, V.int n11, V.int n14, V.int n17, V.int n20, V.int n23, V.int n26, V.int n29, V.int n32, V.int n35]))] _ := s36.new np38 (.lst ([V.int 0, V.int 0, V.int 0, V.int 0]))
    refine c_cat (s39.mem 2 rfl) (s39.mem 0 rfl) (by walk_at "side") (fun p40 np40 => ?_)
    have s41 : Hs [] H [(p40, .lst ([V.int fa, V.int n5, V.int n8, V.int n11, V.int n14, V.int n17, V.int n20, V.int n23, V.int n26, V.int n29, V.int n32, V.int n35, V.int 0, V.int 0, V.int 0, V.int 0])), (p38, .lst ([V.int 0, V.int 0, V.int 0, V.int 0])), (p3, .lst ([V.int 0, V.int 2, V.int 4, V.int 1, V.int 2, V.int 2])), (p1, .lst ([V.int fa, V.int n5, V.int n8, V.int n11, V.int n14, V.int n17, V.int n20, V.int n23, V.int n26, V.int n29, V.int n32, V.int n35]))] _ := (s39.new np40 (.lst (([V.int fa, V.int n5, V.int n8, V.int n11, V.int n14, V.int n17, V.int n20, V.int n23, V.int n26, V.int n29, V.int n32, V.int n35]) ++ ([V.int 0, V.int 0, V.int 0, V.int 0])))).top (rfl)
    have s42 : Hs [] H [(p40, .lst (([fa, n5, n8, n11, n14, n17, n20, n23, n26, n29, n32, n35, 0, 0, 0, 0]).map V.int))] _ := (s41.pick [0] (by decide) (by walk_at "finL"))
    exact fin (kq p40 ([fa, n5, n8, n11, n14, n17, n20, n23, n26, n29, n32, n35, 0, 0, 0, 0]) _ s42 (by first | rfl | (subst_vars; exact encL_eq hok)) (by first | rfl | (subst_vars; exact encL_eq hok))) (by first | rfl | (subst_vars; exact encL_eq hok))
def sp__law_drawn (K : PySem.W.Frag) (A : Ads) : Sp := fun vs H Q _ => ∃ (a : Addr) (ns : List Int), vs = [V.ref a] ∧ (SqL K H a (ns.map V.int)) ∧ ∀ (p : Addr) (fa fb fc fd fe ff : Int) (H' : Hp), Hs [] H [(p, .lst ([V.int fa, V.int fb, V.int fc, V.int fd, V.int fe, V.int ff]))] H' → (InoF fa fb fc fd fe ff) → Q (V.ref p) H'
theorem ok__law_drawn (T : Txt K mg A) : FnOk P w K mg base CX0 2 A.a__law_drawn A.d__law_drawn ["_law_script"] (sp__law_drawn K A) := by
  have G__law_row : FnOk P w K mg base CX0 1 A.a__law_row A.d__law_row ["_law_script", "_law_k"] (sp__law_row K A) := ok__law_row T
  refine T.F__law_drawn.ok sc__law_drawn (fun vs H Q E h => ?_) (fun cdv A' outer s H vs Q E hRm h => ?_)
  · obtain ⟨a, ns, rfl, _⟩ := h
    rfl
  · obtain ⟨a, ns, rfl, hS, kq⟩ := h
    have hUn := hu_of hRm
    have s0 : Hs [] H [] H := Hs.start H
    refine ⟨_, (pss_cons (ps_set (i := 1) sc__law_drawn.nd rfl (.inl rfl) (pe_call G__law_row (hRm.mono (by decide)) (by rfl) T.g__law_row T.F__law_row.kp T.b__law_row .nil pass0 (pa_cons (pv 0) (pa_cons pe_int pa_nil)))) (pss_cons (ps_set (i := 2) sc__law_drawn.nd rfl (.inl rfl) (pe_lst (pa_cons (pe_op op_add pe_int (pe_op op_mod (pe_callTy call_int1 (by rfl) T.z_int (by decide +kernel) (pa_cons (pv 1) pa_nil)) pe_int)) pa_nil))) (pss_cons (ps_set (i := 3) sc__law_drawn.nd rfl (.inl rfl) (pe_lst (pa_cons pe_int (pa_cons pe_int (pa_cons pe_int (pa_cons pe_int (pa_cons pe_int pa_nil))))))) (pss_cons (ps_for PassesOwn.never rfl (pi_range1 rfl T.z_range (pa_cons pe_int pa_nil)) (pg_name (i := 4) sc__law_drawn.nd rfl (.inl rfl)) (pss_cons (ps_set (i := 5) sc__law_drawn.nd rfl (.inl rfl) (pe_ix ix_list (pv 3) (pv 4) (fun _ _ => rfl))) (pss_cons (ps_set (i := 1) sc__law_drawn.nd rfl (.inl rfl) (pe_call G__law_row (hRm.mono (by decide)) (by rfl) T.g__law_row T.F__law_row.kp T.b__law_row .nil pass0 (pa_cons (pv 0) (pa_cons (pe_op op_add pe_int (pv 4)) pa_nil)))) (pss_cons (ps_if (pt_cmpR op_eq (pe_op op_mod (pe_callTy call_int1 (by rfl) T.z_int (by decide +kernel) (pa_cons (pv 1) pa_nil)) pe_int) pe_int (nomark _)) (pss_cons (ps_set (i := 5) sc__law_drawn.nd rfl (.inl rfl) (pe_callB (call_min2 rfl) (by rfl) T.z_min (by decide +kernel) (pa_cons (pv 5) (pa_cons pe_int pa_nil)))) pss_nil) pss_nil) (pss_cons (ps_set (i := 6) sc__law_drawn.nd rfl (.inl rfl) (pe_op op_mod (pe_op op_fdiv (pe_callTy call_int1 (by rfl) T.z_int (by decide +kernel) (pa_cons (pv 1) pa_nil)) pe_int) (pv 5))) (pss_cons (ps_if (pt_cmpR op_eq (pe_op op_mod (pe_op op_fdiv (pe_callTy call_int1 (by rfl) T.z_int (by decide +kernel) (pa_cons (pv 1) pa_nil)) pe_int) pe_int) pe_int (nomark _)) (pss_cons (ps_set (i := 6) sc__law_drawn.nd rfl (.inl rfl) (pe_op op_sub (pv 5) pe_int)) pss_nil) pss_nil) (pss_cons (ps_expr (pe_bm PySem.F.plainAttrs_list PySem.F.slot_list_append PySem.F.type_list_append mt_append (pv 2) (pa_cons (pv 6) pa_nil))) pss_nil))))))) (pss_cons (ps_ret (pv 2)) pss_nil))))), ?_⟩
    refine c_sig [some (V.ref a), none, none, none, none, none, none] rfl ?_
    obtain ⟨n1, en1⟩ : ∃ n : Int, n = (rowG ns 0) := ⟨_, rfl⟩
    have en10 : 0 ≤ n1 := by rw [en1]; exact rowG_nn _ _
    refine s_set [some (V.ref a), some (V.int n1), none, none, none, none, none] (vis (vcall (va (vv 0 rfl) (va vc va0)) (fun _ kC => ⟨a, ns, 0, rfl, (s0.sq hS), (by walk_at "side"), kC⟩)) (congrArg V.int en1.symm)) rfl ?_
    refine c_set ?_
    refine c_lst ?_
    refine c_cons ?_
    obtain ⟨n2, en2⟩ : ∃ n : Int, n = (1 + (n1 % 3)) := ⟨_, rfl⟩
    refine (vis (v0 (g := fun i j => .int (i + j)) vc (v1 (C := fun _ j => 0 < j) (g := fun i j => .int (i % j)) (by walk_at "side") (vint (vv 1 rfl)) vc)) (congrArg V.int en2.symm)) _ ?_
    refine c_nil ?_
    refine ⟨sz1 (by show 1 ≤ 1000000; decide), fun p3 np3 => ?_⟩
    have s4 : Hs [] H [(p3, .lst ([V.int n2]))] _ := s0.new np3 (.lst ([V.int n2]))
    refine k_set [some (V.ref a), some (V.int n1), some (V.ref p3), none, none, none, none] rfl ?_
    refine c_set ?_
    refine c_lst ?_
    refine c_cons ?_
    refine vc _ ?_
    refine c_cons ?_
    refine vc _ ?_
    refine c_cons ?_
    refine vc _ ?_
    refine c_cons ?_
    refine vc _ ?_
    refine c_cons ?_
    refine vc _ ?_
    refine c_nil ?_
    refine ⟨sz1 (by show 5 ≤ 1000000; decide), fun p5 np5 => ?_⟩
    have s6 : Hs [] H [(p5, .lst ([V.int 65536, V.int 4294967296, V.int 256, V.int 65536, V.int 65536])), (p3, .lst ([V.int n2]))] _ := s4.new np5 (.lst ([V.int 65536, V.int 4294967296, V.int 256, V.int 65536, V.int 65536]))
    refine k_set [some (V.ref a), some (V.int n1), some (V.ref p3), some (V.ref p5), none, none, none] rfl ?_
    refine s_unrR1 (m := 5) (va vc va0) (by decide) ?_
    refine u_next ?_
    refine c_sig [some (V.ref a), some (V.int n1), some (V.ref p3), some (V.ref p5), some (V.int 0), none, none] rfl ?_
    refine s_set [some (V.ref a), some (V.int n1), some (V.ref p3), some (V.ref p5), some (V.int 0), some (V.int 65536), none] (vixL (vv 3 rfl) (vv 4 rfl) (xs := _) (s6.l 0 rfl) (by rfl)) rfl ?_
    obtain ⟨n7, en7⟩ : ∃ n : Int, n = (rowG ns 1) := ⟨_, rfl⟩
    have en70 : 0 ≤ n7 := by rw [en7]; exact rowG_nn _ _
    refine s_set [some (V.ref a), some (V.int n7), some (V.ref p3), some (V.ref p5), some (V.int 0), some (V.int 65536), none] (vis (vcall (va (vv 0 rfl) (va (vis (v0 (g := fun i j => .int (i + j)) vc (vv 4 rfl)) (w := .int 1) (by rfl)) va0)) (fun _ kC => ⟨a, ns, 1, rfl, (s6.sq hS), (by walk_at "side"), kC⟩)) (congrArg V.int en7.symm)) rfl ?_
    obtain ⟨n9, en9⟩ : ∃ n : Int, n = (if (n7 % 3) = 0 then 300 else 65536) := ⟨_, rfl⟩
    refine s_ifset [some (V.ref a), some (V.int n7), some (V.ref p3), some (V.ref p5), some (V.int 0), some (V.int n9), none] (.int n9) (vtest (veq (v1 (C := fun _ j => 0 < j) (g := fun i j => .int (i % j)) (by walk_at "side") (vint (vv 1 rfl)) vc) vc)) (fun h8 => vis (vis (vmin2 (vv 5 rfl) vc) (w := .int 300) (by rfl)) (congrArg V.int (by rw [en9, if_pos h8]))) rfl (fun h8 => by rw [en9, if_neg h8]) ?_
    obtain ⟨n10, en10⟩ : ∃ n : Int, n = ((n7 / 3) % n9) := ⟨_, rfl⟩
    have en100 : 0 ≤ n10 := by rw [en10]; exact Int.emod_nonneg _ (by walk_at "side")
    have en101 : n10 < n9 := by rw [en10]; exact Int.emod_lt_of_pos _ (by walk_at "side")
    refine s_set [some (V.ref a), some (V.int n7), some (V.ref p3), some (V.ref p5), some (V.int 0), some (V.int n9), some (V.int n10)] (vis (v1 (C := fun _ j => 0 < j) (g := fun i j => .int (i % j)) (by walk_at "side") (v1 (C := CDiv) (g := fun i j => .int (i / j)) ⟨by walk_at "side", by walk_at "side"⟩ (vint (vv 1 rfl)) vc) (vv 5 rfl)) (congrArg V.int en10.symm)) rfl ?_
    obtain ⟨n12, en12⟩ : ∃ n : Int, n = (if ((n7 / 3) % 7) = 3 then n9 - 1 else n10) := ⟨_, rfl⟩
    refine s_ifset [some (V.ref a), some (V.int n7), some (V.ref p3), some (V.ref p5), some (V.int 0), some (V.int n9), some (V.int n12)] (.int n12) (vtest (veq (v1 (C := fun _ j => 0 < j) (g := fun i j => .int (i % j)) (by walk_at "side") (v1 (C := CDiv) (g := fun i j => .int (i / j)) ⟨by walk_at "side", by walk_at "side"⟩ (vint (vv 1 rfl)) vc) vc) vc)) (fun h11 => vis (v0 (g := fun i j => .int (i - j)) (vv 5 rfl) vc) (congrArg V.int (by rw [en12, if_pos h11]))) rfl (fun h11 => by rw [en12, if_neg h11]) ?_
    have hn12b : 0 ≤ n12 ∧ n12 < 65536 := by omega
    have hfirst : 1 ≤ n2 ∧ n2 ≤ 3 := by omega
    clear en12 en10 en9 en7 en2 en1
    
    refine s_app (xs := ([V.int n2])) (s6.mem 1 rfl) (vv 2 rfl) (vv 6 rfl) (by walk_at "side") ?_
    have s13 : Hs [] H [(p5, .lst ([V.int 65536, V.int 4294967296, V.int 256, V.int 65536, V.int 65536])), (p3, .lst ([V.int n2, V.int n12]))] _ := s6.wr 1 (.lst ([V.int n2, V.int n12])) rfl
    refine s_nxu ?_
    refine u_next ?_
    refine c_sig [some (V.ref a), some (V.int n7), some (V.ref p3), some (V.ref p5), some (V.int 1), some (V.int n9), some (V.int n12)] rfl ?_
    refine s_set [some (V.ref a), some (V.int n7), some (V.ref p3), some (V.ref p5), some (V.int 1), some (V.int 4294967296), some (V.int n12)] (vixL (vv 3 rfl) (vv 4 rfl) (xs := _) (s13.l 0 rfl) (by rfl)) rfl ?_
    obtain ⟨n14, en14⟩ : ∃ n : Int, n = (rowG ns 2) := ⟨_, rfl⟩
    have en140 : 0 ≤ n14 := by rw [en14]; exact rowG_nn _ _
    refine s_set [some (V.ref a), some (V.int n14), some (V.ref p3), some (V.ref p5), some (V.int 1), some (V.int 4294967296), some (V.int n12)] (vis (vcall (va (vv 0 rfl) (va (vis (v0 (g := fun i j => .int (i + j)) vc (vv 4 rfl)) (w := .int 2) (by rfl)) va0)) (fun _ kC => ⟨a, ns, 2, rfl, (s13.sq hS), (by walk_at "side"), kC⟩)) (congrArg V.int en14.symm)) rfl ?_
    obtain ⟨n16, en16⟩ : ∃ n : Int, n = (if (n14 % 3) = 0 then 300 else 4294967296) := ⟨_, rfl⟩
    refine s_ifset [some (V.ref a), some (V.int n14), some (V.ref p3), some (V.ref p5), some (V.int 1), some (V.int n16), some (V.int n12)] (.int n16) (vtest (veq (v1 (C := fun _ j => 0 < j) (g := fun i j => .int (i % j)) (by walk_at "side") (vint (vv 1 rfl)) vc) vc)) (fun h15 => vis (vis (vmin2 (vv 5 rfl) vc) (w := .int 300) (by rfl)) (congrArg V.int (by rw [en16, if_pos h15]))) rfl (fun h15 => by rw [en16, if_neg h15]) ?_
    obtain ⟨n17, en17⟩ : ∃ n : Int, n = ((n14 / 3) % n16) := ⟨_, rfl⟩
    have en170 : 0 ≤ n17 := by rw [en17]; exact Int.emod_nonneg _ (by walk_at "side")
    have en171 : n17 < n16 := by rw [en17]; exact Int.emod_lt_of_pos _ (by walk_at "side")
    refine s_set [some (V.ref a), some (V.int n14), some (V.ref p3), some (V.ref p5), some (V.int 1), some (V.int n16), some (V.int n17)] (vis (v1 (C := fun _ j => 0 < j) (g := fun i j => .int (i % j)) (by walk_at "side") (v1 (C := CDiv) (g := fun i j => .int (i / j)) ⟨by walk_at "side", by walk_at "side"⟩ (vint (vv 1 rfl)) vc) (vv 5 rfl)) (congrArg V.int en17.symm)) rfl ?_
    obtain ⟨n19, en19⟩ : ∃ n : Int, n = (if ((n14 / 3) % 7) = 3 then n16 - 1 else n17) := ⟨_, rfl⟩
    refine s_ifset [some (V.ref a), some (V.int n14), some (V.ref p3), some (V.ref p5), some (V.int 1), some (V.int n16), some (V.int n19)] (.int n19) (vtest (veq (v1 (C := fun _ j => 0 < j) (g := fun i j => .int (i % j)) (by walk_at "side") (v1 (C := CDiv) (g := fun i j => .int (i / j)) ⟨by walk_at "side", by walk_at "side"⟩ (vint (vv 1 rfl)) vc) vc) vc)) (fun h18 => vis (v0 (g := fun i j => .int (i - j)) (vv 5 rfl) vc) (congrArg V.int (by rw [en19, if_pos h18]))) rfl (fun h18 => by rw [en19, if_neg h18]) ?_
    have hn19b : 0 ≤ n19 ∧ n19 < 4294967296 := by omega
    clear en19 en17 en16 en14
    
    refine s_app (xs := ([V.int n2, V.int n12])) (s13.mem 1 rfl) (vv 2 rfl) (vv 6 rfl) (by walk_at "side") ?_
    have s20 : Hs [] H [(p5, .lst ([V.int 65536, V.int 4294967296, V.int 256, V.int 65536, V.int 65536])), (p3, .lst ([V.int n2, V.int n12, V.int n19]))] _ := s13.wr 1 (.lst ([V.int n2, V.int n12, V.int n19])) rfl
    refine s_nxu ?_
    refine u_next ?_
    refine c_sig [some (V.ref a), some (V.int n14), some (V.ref p3), some (V.ref p5), some (V.int 2), some (V.int n16), some (V.int n19)] rfl ?_
    refine s_set [some (V.ref a), some (V.int n14), some (V.ref p3), some (V.ref p5), some (V.int 2), some (V.int 256), some (V.int n19)] (vixL (vv 3 rfl) (vv 4 rfl) (xs := _) (s20.l 0 rfl) (by rfl)) rfl ?_
    obtain ⟨n21, en21⟩ : ∃ n : Int, n = (rowG ns 3) := ⟨_, rfl⟩
    have en210 : 0 ≤ n21 := by rw [en21]; exact rowG_nn _ _
    refine s_set [some (V.ref a), some (V.int n21), some (V.ref p3), some (V.ref p5), some (V.int 2), some (V.int 256), some (V.int n19)] (vis (vcall (va (vv 0 rfl) (va (vis (v0 (g := fun i j => .int (i + j)) vc (vv 4 rfl)) (w := .int 3) (by rfl)) va0)) (fun _ kC => ⟨a, ns, 3, rfl, (s20.sq hS), (by walk_at "side"), kC⟩)) (congrArg V.int en21.symm)) rfl ?_
    obtain ⟨n23, en23⟩ : ∃ n : Int, n = (if (n21 % 3) = 0 then 256 else 256) := ⟨_, rfl⟩
    refine s_ifset [some (V.ref a), some (V.int n21), some (V.ref p3), some (V.ref p5), some (V.int 2), some (V.int n23), some (V.int n19)] (.int n23) (vtest (veq (v1 (C := fun _ j => 0 < j) (g := fun i j => .int (i % j)) (by walk_at "side") (vint (vv 1 rfl)) vc) vc)) (fun h22 => vis (vis (vmin2 (vv 5 rfl) vc) (w := .int 256) (by rfl)) (congrArg V.int (by rw [en23, if_pos h22]))) rfl (fun h22 => by rw [en23, if_neg h22]) ?_
    obtain ⟨n24, en24⟩ : ∃ n : Int, n = ((n21 / 3) % n23) := ⟨_, rfl⟩
    have en240 : 0 ≤ n24 := by rw [en24]; exact Int.emod_nonneg _ (by walk_at "side")
    have en241 : n24 < n23 := by rw [en24]; exact Int.emod_lt_of_pos _ (by walk_at "side")
    refine s_set [some (V.ref a), some (V.int n21), some (V.ref p3), some (V.ref p5), some (V.int 2), some (V.int n23), some (V.int n24)] (vis (v1 (C := fun _ j => 0 < j) (g := fun i j => .int (i % j)) (by walk_at "side") (v1 (C := CDiv) (g := fun i j => .int (i / j)) ⟨by walk_at "side", by walk_at "side"⟩ (vint (vv 1 rfl)) vc) (vv 5 rfl)) (congrArg V.int en24.symm)) rfl ?_
    obtain ⟨n26, en26⟩ : ∃ n : Int, n = (if ((n21 / 3) % 7) = 3 then n23 - 1 else n24) := ⟨_, rfl⟩
    refine s_ifset [some (V.ref a), some (V.int n21), some (V.ref p3), some (V.ref p5), some (V.int 2), some (V.int n23), some (V.int n26)] (.int n26) (vtest (veq (v1 (C := fun _ j => 0 < j) (g := fun i j => .int (i % j)) (by walk_at "side") (v1 (C := CDiv) (g := fun i j => .int (i / j)) ⟨by walk_at "side", by walk_at "side"⟩ (vint (vv 1 rfl)) vc) vc) vc)) (fun h25 => vis (v0 (g := fun i j => .int (i - j)) (vv 5 rfl) vc) (congrArg V.int (by rw [en26, if_pos h25]))) rfl (fun h25 => by rw [en26, if_neg h25]) ?_
    have hn26b : 0 ≤ n26 ∧ n26 < 256 := by omega
    clear en26 en24 en23 en21
    
    refine s_app (xs := ([V.int n2, V.int n12, V.int n19])) (s20.mem 1 rfl) (vv 2 rfl) (vv 6 rfl) (by walk_at "side") ?_
    have s27 : Hs [] H [(p5, .lst ([V.int 65536, V.int 4294967296, V.int 256, V.int 65536, V.int 65536])), (p3, .lst ([V.int n2, V.int n12, V.int n19, V.int n26]))] _ := s20.wr 1 (.lst ([V.int n2, V.int n12, V.int n19, V.int n26])) rfl
    refine s_nxu ?_
    refine u_next ?_
    refine c_sig [some (V.ref a), some (V.int n21), some (V.ref p3), some (V.ref p5), some (V.int 3), some (V.int n23), some (V.int n26)] rfl ?_
    refine s_set [some (V.ref a), some (V.int n21), some (V.ref p3), some (V.ref p5), some (V.int 3), some (V.int 65536), some (V.int n26)] (vixL (vv 3 rfl) (vv 4 rfl) (xs := _) (s27.l 0 rfl) (by rfl)) rfl ?_
    obtain ⟨n28, en28⟩ : ∃ n : Int, n = (rowG ns 4) := ⟨_, rfl⟩
    have en280 : 0 ≤ n28 := by rw [en28]; exact rowG_nn _ _
    refine s_set [some (V.ref a), some (V.int n28), some (V.ref p3), some (V.ref p5), some (V.int 3), some (V.int 65536), some (V.int n26)] (vis (vcall (va (vv 0 rfl) (va (vis (v0 (g := fun i j => .int (i + j)) vc (vv 4 rfl)) (w := .int 4) (by rfl)) va0)) (fun _ kC => ⟨a, ns, 4, rfl, (s27.sq hS), (by walk_at "side"), kC⟩)) (congrArg V.int en28.symm)) rfl ?_
    obtain ⟨n30, en30⟩ : ∃ n : Int, n = (if (n28 % 3) = 0 then 300 else 65536) := ⟨_, rfl⟩
    refine s_ifset [some (V.ref a), some (V.int n28), some (V.ref p3), some (V.ref p5), some (V.int 3), some (V.int n30), some (V.int n26)] (.int n30) (vtest (veq (v1 (C := fun _ j => 0 < j) (g := fun i j => .int (i % j)) (by walk_at "side") (vint (vv 1 rfl)) vc) vc)) (fun h29 => vis (vis (vmin2 (vv 5 rfl) vc) (w := .int 300) (by rfl)) (congrArg V.int (by rw [en30, if_pos h29]))) rfl (fun h29 => by rw [en30, if_neg h29]) ?_
    obtain ⟨n31, en31⟩ : ∃ n : Int, n = ((n28 / 3) % n30) := ⟨_, rfl⟩
    have en310 : 0 ≤ n31 := by rw [en31]; exact Int.emod_nonneg _ (by walk_at "side")
    have en311 : n31 < n30 := by rw [en31]; exact Int.emod_lt_of_pos _ (by walk_at "side")
    refine s_set [some (V.ref a), some (V.int n28), some (V.ref p3), some (V.ref p5), some (V.int 3), some (V.int n30), some (V.int n31)] (vis (v1 (C := fun _ j => 0 < j) (g := fun i j => .int (i % j)) (by walk_at "side") (v1 (C := CDiv) (g := fun i j => .int (i / j)) ⟨by walk_at "side", by walk_at "side"⟩ (vint (vv 1 rfl)) vc) (vv 5 rfl)) (congrArg V.int en31.symm)) rfl ?_
    obtain ⟨n33, en33⟩ : ∃ n : Int, n = (if ((n28 / 3) % 7) = 3 then n30 - 1 else n31) := ⟨_, rfl⟩
    refine s_ifset [some (V.ref a), some (V.int n28), some (V.ref p3), some (V.ref p5), some (V.int 3), some (V.int n30), some (V.int n33)] (.int n33) (vtest (veq (v1 (C := fun _ j => 0 < j) (g := fun i j => .int (i % j)) (by walk_at "side") (v1 (C := CDiv) (g := fun i j => .int (i / j)) ⟨by walk_at "side", by walk_at "side"⟩ (vint (vv 1 rfl)) vc) vc) vc)) (fun h32 => vis (v0 (g := fun i j => .int (i - j)) (vv 5 rfl) vc) (congrArg V.int (by rw [en33, if_pos h32]))) rfl (fun h32 => by rw [en33, if_neg h32]) ?_
    have hn33b : 0 ≤ n33 ∧ n33 < 65536 := by omega
    clear en33 en31 en30 en28
    
    refine s_app (xs := ([V.int n2, V.int n12, V.int n19, V.int n26])) (s27.mem 1 rfl) (vv 2 rfl) (vv 6 rfl) (by walk_at "side") ?_
    have s34 : Hs [] H [(p5, .lst ([V.int 65536, V.int 4294967296, V.int 256, V.int 65536, V.int 65536])), (p3, .lst ([V.int n2, V.int n12, V.int n19, V.int n26, V.int n33]))] _ := s27.wr 1 (.lst ([V.int n2, V.int n12, V.int n19, V.int n26, V.int n33])) rfl
    refine s_nxu ?_
    refine u_next ?_
    refine c_sig [some (V.ref a), some (V.int n28), some (V.ref p3), some (V.ref p5), some (V.int 4), some (V.int n30), some (V.int n33)] rfl ?_
    refine s_set [some (V.ref a), some (V.int n28), some (V.ref p3), some (V.ref p5), some (V.int 4), some (V.int 65536), some (V.int n33)] (vixL (vv 3 rfl) (vv 4 rfl) (xs := _) (s34.l 0 rfl) (by rfl)) rfl ?_
    obtain ⟨n35, en35⟩ : ∃ n : Int, n = (rowG ns 5) := ⟨_, rfl⟩
    have en350 : 0 ≤ n35 := by rw [en35]; exact rowG_nn _ _
    refine s_set [some (V.ref a), some (V.int n35), some (V.ref p3), some (V.ref p5), some (V.int 4), some (V.int 65536), some (V.int n33)] (vis (vcall (va (vv 0 rfl) (va (vis (v0 (g := fun i j => .int (i + j)) vc (vv 4 rfl)) (w := .int 5) (by rfl)) va0)) (fun _ kC => ⟨a, ns, 5, rfl, (s34.sq hS), (by walk_at "side"), kC⟩)) (congrArg V.int en35.symm)) rfl ?_
    obtain ⟨n37, en37⟩ : ∃ n : Int, n = (if (n35 % 3) = 0 then 300 else 65536) := ⟨_, rfl⟩
    refine s_ifset [some (V.ref a), some (V.int n35), some (V.ref p3), some (V.ref p5), some (V.int 4), some (V.int n37), some (V.int n33)] (.int n37) (vtest (veq (v1 (C := fun _ j => 0 < j) (g := fun i j => .int (i % j)) (by walk_at "side") (vint (vv 1 rfl)) vc) vc)) (fun h36 => vis (vis (vmin2 (vv 5 rfl) vc) (w := .int 300) (by rfl)) (congrArg V.int (by rw [en37, if_pos h36]))) rfl (fun h36 => by rw [en37, if_neg h36]) ?_
    obtain ⟨n38, en38⟩ : ∃ n : Int, n = ((n35 / 3) % n37) := ⟨_, rfl⟩
    have en380 : 0 ≤ n38 := by rw [en38]; exact Int.emod_nonneg _ (by walk_at "side")
    have en381 : n38 < n37 := by rw [en38]; exact Int.emod_lt_of_pos _ (by walk_at "side")
    refine s_set [some (V.ref a), some (V.int n35), some (V.ref p3), some (V.ref p5), some (V.int 4), some (V.int n37), some (V.int n38)] (vis (v1 (C := fun _ j => 0 < j) (g := fun i j => .int (i % j)) (by walk_at "side") (v1 (C := CDiv) (g := fun i j => .int (i / j)) ⟨by walk_at "side", by walk_at "side"⟩ (vint (vv 1 rfl)) vc) (vv 5 rfl)) (congrArg V.int en38.symm)) rfl ?_
    obtain ⟨n40, en40⟩ : ∃ n : Int, n = (if ((n35 / 3) % 7) = 3 then n37 - 1 else n38) := ⟨_, rfl⟩
    refine s_ifset [some (V.ref a), some (V.int n35), some (V.ref p3), some (V.ref p5), some (V.int 4), some (V.int n37), some (V.int n40)] (.int n40) (vtest (veq (v1 (C := fun _ j => 0 < j) (g := fun i j => .int (i % j)) (by walk_at "side") (v1 (C := CDiv) (g := fun i j => .int (i / j)) ⟨by walk_at "side", by walk_at "side"⟩ (vint (vv 1 rfl)) vc) vc) vc)) (fun h39 => vis (v0 (g := fun i j => .int (i - j)) (vv 5 rfl) vc) (congrArg V.int (by rw [en40, if_pos h39]))) rfl (fun h39 => by rw [en40, if_neg h39]) ?_
    have hn40b : 0 ≤ n40 ∧ n40 < 65536 := by omega
    clear en40 en38 en37 en35
    
    refine s_app (xs := ([V.int n2, V.int n12, V.int n19, V.int n26, V.int n33])) (s34.mem 1 rfl) (vv 2 rfl) (vv 6 rfl) (by walk_at "side") ?_
    have s41 : Hs [] H [(p5, .lst ([V.int 65536, V.int 4294967296, V.int 256, V.int 65536, V.int 65536])), (p3, .lst ([V.int n2, V.int n12, V.int n19, V.int n26, V.int n33, V.int n40]))] _ := s34.wr 1 (.lst ([V.int n2, V.int n12, V.int n19, V.int n26, V.int n33, V.int n40])) rfl
    refine s_nxu ?_
    refine u_done ?_
    refine s_ret (vv 2 rfl) ?_
    have s42 : Hs [] H [(p3, .lst ([V.int n2, V.int n12, V.int n19, V.int n26, V.int n33, V.int n40]))] _ := (s41.pick [1] (by decide) (by walk_at "finL"))
    exact fin (kq p3 n2 n12 n19 n26 n33 n40 _ s42 (by first | rfl | (unfold InoF; omega))) (by first | rfl | (unfold InoF; omega))
def sp__law_reads (K : PySem.W.Frag) (A : Ads) : Sp := fun vs H Q _ => ∃ (a : Addr) (ns : List Int), vs = [V.ref a] ∧ (SqL K H a (ns.map V.int)) ∧ (ns.length = 16) ∧ (∀ o ∈ ns, 0 ≤ o ∧ o < 256) ∧ ∀  (H' : Hp), Hs [] H [] H' → Q (V.bl true) H'
theorem ok__law_reads (T : Txt K mg A) : FnOk P w K mg base CX0 4 A.a__law_reads A.d__law_reads ["_law_octets_here"] (sp__law_reads K A) := by
  have G_decode_inode : FnOk P w K mg base CX0 3 A.a_decode_inode A.d_decode_inode ["octets"] (sp_decode_inode K A) := ok_decode_inode T
  have G_encode_inode : FnOk P w K mg base CX0 2 A.a_encode_inode A.d_encode_inode ["inode"] (sp_encode_inode K A) := ok_encode_inode T
  have G__law_fields : FnOk P w K mg base CX0 1 A.a__law_fields A.d__law_fields ["_law_inode"] (sp__law_fields K A) := ok__law_fields T
  have G__law_is_integer : FnOk P w K mg base CX0 1 A.a__law_is_integer A.d__law_is_integer ["_law_actual"] (sp__law_is_integer K A) := ok__law_is_integer T
  have G__law_is : FnOk P w K mg base CX0 1 A.a__law_is A.d__law_is ["_law_actual", "_law_due"] (sp__law_is K A) := ok__law_is T
  have G_Inode_is_directory : FnOk P w K mg base CX0 1 A.a_Inode_is_directory A.d_Inode_is_directory ["self"] (sp_Inode_is_directory K A) := ok_Inode_is_directory T
  refine T.F__law_reads.ok sc__law_reads (fun vs H Q E h => ?_) (fun cdv A' outer s H vs Q E hRm h => ?_)
  · obtain ⟨a, ns, rfl, _⟩ := h
    rfl
  · obtain ⟨a, ns, rfl, hS, hl, hbd, kq⟩ := h
    have hUn := hu_of hRm
    have s0 : Hs [] H [] H := Hs.start H
    refine ⟨_, (pss_cons (ps_set (i := 1) sc__law_reads.nd rfl (.inl rfl) (pe_callTy call_list_of (by rfl) T.z_list (by decide +kernel) (pa_cons (pv 0) pa_nil))) (pss_cons (ps_set (i := 2) sc__law_reads.nd rfl (.inl rfl) (pe_call G_decode_inode (hRm.mono (by decide)) (by rfl) T.g_decode_inode T.F_decode_inode.kp T.b_decode_inode .nil pass0 (pa_cons (pv 1) pa_nil))) (pss_cons (ps_if (pt_cmpR (op_neD hRm.units) (pv 1) (pv 0) (nomark _)) (pss_cons ps_never pss_nil) pss_nil) (pss_cons (ps_set (i := 3) sc__law_reads.nd rfl (.inl rfl) (pe_and (pe_cmpR op_in_seq (pe_ix ix_list (pv 0) pe_int (fun _ _ => rfl)) (pe_lst (pa_cons pe_int (pa_cons pe_int (pa_cons pe_int pa_nil)))) (by with_unfolding_all rfl)) (pe_one (pe_cmpR (op_eqD hRm.units) (pe_slice sl_list (pv 0) (po_some pe_int) po_none) (pe_lst (pa_cons pe_int (pa_cons pe_int (pa_cons pe_int (pa_cons pe_int pa_nil))))) (nomark _))))) (pss_cons (ps_if (pt_not (pt_val (pv 3) (fun _ => rfl))) (pss_cons (ps_ret (pe_cmpR op_isN (pv 2) pe_non (nomark _))) pss_nil) pss_nil) (pss_cons (ps_if (pw_or (pt_cmpR op_isN (pv 2) pe_non (nomark _)) (pw_or1 (pt_cmpR (op_neD hRm.units) (pe_call G_encode_inode (hRm.mono (by decide)) (by rfl) T.g_encode_inode T.F_encode_inode.kp T.b_encode_inode .nil pass0 (pa_cons (pv 2) pa_nil)) (pv 0) (nomark _)))).pt (pss_cons (ps_ret pe_bl) pss_nil) pss_nil) (pss_cons (ps_for PassesOwn.never rfl (pi_list (pe_call G__law_fields (hRm.mono (by decide)) (by rfl) T.g__law_fields T.F__law_fields.kp T.b__law_fields .nil pass0 (pa_cons (pv 2) pa_nil))) (pg_name (i := 4) sc__law_reads.nd rfl (.inl rfl)) (pss_cons (ps_if (pt_not (pt_val (pe_call G__law_is_integer (hRm.mono (by decide)) (by rfl) T.g__law_is_integer T.F__law_is_integer.kp T.b__law_is_integer .nil pass0 (pa_cons (pv 4) pa_nil)) (fun _ => rfl))) (pss_cons ps_never pss_nil) pss_nil) pss_nil)) (pss_cons (ps_ret (pe_call G__law_is (hRm.mono (by decide)) (by rfl) T.g__law_is T.F__law_is.kp T.b__law_is .nil pass0 (pa_cons (pe_prop (pv 2) T.cl_Inode T.pr_Inode_is_directory G_Inode_is_directory (hRm.mono (by decide)) T.b_Inode_is_directory .nil pass0 (by rfl)) (pa_cons (pe_cmpR op_eq (pe_ix ix_list (pv 0) pe_int (fun _ _ => rfl)) pe_int (nomark _)) pa_nil)))) pss_nil)))))))), ?_⟩
    refine c_sig [some (V.ref a), none, none, none, none] rfl ?_
    refine c_set ?_
    refine c_cb ?_
    refine c_cons ?_
    refine (vv 0 rfl) _ ?_
    refine c_nil ?_
    refine ⟨_, _, rfl, .inl (s0.sq hS), fun p1 np1 => ?_⟩
    have s2 : Hs [] H [(p1, .lst (ns.map V.int))] _ := s0.new np1 (.lst (ns.map V.int))
    refine k_set [some (V.ref a), some (V.ref p1), none, none, none] rfl ?_
    by_cases hG : InoG ns
    · -- case True
      refine c_set ?_
      refine c_callx ?_
      refine c_cons ?_
      refine (vv 1 rfl) _ ?_
      refine c_nil ?_
      refine .inl ⟨p1, ns, rfl, (s2.l 0 rfl), (by walk_at "side"), (by assumption), fun p_3 dx_4 H5 r6 => ?_⟩
      have s7 : Hs [] H [(p_3, .ins A.c_Inode dx_4 [("kind", V.int (gi ns 0)), ("links", V.int (valN (cutI ns 1 3))), ("size", V.int (valN (cutI ns 3 7))), ("height", V.int (gi ns 7)), ("root", V.int (valN (cutI ns 8 10))), ("parent", V.int (valN (cutI ns 10 12)))]), (p1, .lst (ns.map V.int))] _ := s2.call0 r6
      refine k_set [some (V.ref a), some (V.ref p1), some (V.ref p_3), none, none] rfl ?_
      refine c_ifS ?_
      refine c_test ?_
      refine c_op ?_
      refine (vv 1 rfl) _ ?_
      refine (vv 0 rfl) _ ?_
      refine ⟨.list (ns.map PyData.int), .list (ns.map PyData.int), (.lst (s7.l 1 rfl) (dp_ints ns)), (.lst (s7.sq hS) (dp_ints ns)), (by walk_at "shp"), (by walk_at "shp"), ?_⟩
      rw [show PyData.eqv (.list (ns.map PyData.int)) (.list (ns.map PyData.int)) = true from SeqAt.eqv_refl _ (SeqAt.canLay_of_shaped (by walk_at "shp"))]
      refine ⟨_, rfl, ?_⟩
      refine c_iteB (fun h9 => ?_) (fun h9 => ?_)
      · -- yes
        exfalso; walk_at "dead"
      · -- no
        refine s_nxs ?_
        refine c_set ?_
        refine c_andW (p := (gi ns 0) ∈ ([1, 2, 3] : List Int)) (q := (cutI ns 12 (ns.length : Int)) = ([0, 0, 0, 0] : List Int)) s7 (fun Q' kQ => ?_) (fun H11 s12 h10 Q' kQ => ?_) (fun H13 s14 => ?_)
        · -- the first part
          refine c_op ?_
          obtain ⟨n15, en15⟩ : ∃ n : Int, n = (gi ns 0) := ⟨_, rfl⟩
          refine (vis (vixL (vv 0 rfl) vc (xs := (ns.map V.int)) (s7.sq hS) (at_gi (by walk_at "side") (by walk_at "side"))) (congrArg V.int en15.symm)) _ ?_
          refine c_lst ?_
          refine c_cons ?_
          refine vc _ ?_
          refine c_cons ?_
          refine vc _ ?_
          refine c_cons ?_
          refine vc _ ?_
          refine c_nil ?_
          refine ⟨sz1 (by show 3 ≤ 1000000; decide), fun p16 np16 => ?_⟩
          have s17 : Hs [] H [(p16, .lst ([V.int 1, V.int 2, V.int 3])), (p_3, .ins A.c_Inode dx_4 [("kind", V.int (gi ns 0)), ("links", V.int (valN (cutI ns 1 3))), ("size", V.int (valN (cutI ns 3 7))), ("height", V.int (gi ns 7)), ("root", V.int (valN (cutI ns 8 10))), ("parent", V.int (valN (cutI ns 10 12)))]), (p1, .lst (ns.map V.int))] _ := s7.new np16 (.lst ([V.int 1, V.int 2, V.int 3]))
          refine r_in (ns := ([1, 2, 3] : List Int)) (.inl (s17.l 0 rfl)) ?_
          subst en15
          exact kQ _ (s17.pick [1, 2] (by decide) rfl)
        · -- the second part
          refine c_op ?_
          refine (vv 0 rfl) _ ((vp1 vc) _ (vp0 _ (r_slL (s12.sq hS) (by show (0 : Int) ≤ 12; walk_at "side") (by show (12 : Int) ≤ (ns.length : Int); walk_at "side") (by show (0 : Int) ≤ (ns.length : Int); walk_at "side") (by show ((ns.length : Int) : Int) ≤ (ns.length : Int); walk_at "side") fun p18 np18 => ?_)))
          have s19 : Hs [] H [(p18, .lst ((cutI ns 12 (ns.length : Int)).map V.int)), (p_3, .ins A.c_Inode dx_4 [("kind", V.int (gi ns 0)), ("links", V.int (valN (cutI ns 1 3))), ("size", V.int (valN (cutI ns 3 7))), ("height", V.int (gi ns 7)), ("root", V.int (valN (cutI ns 8 10))), ("parent", V.int (valN (cutI ns 10 12)))]), (p1, .lst (ns.map V.int))] _ := s12.new np18 (.lst ((cutI ns 12 (ns.length : Int)).map V.int))
          refine c_lst ?_
          refine c_cons ?_
          refine vc _ ?_
          refine c_cons ?_
          refine vc _ ?_
          refine c_cons ?_
          refine vc _ ?_
          refine c_cons ?_
          refine vc _ ?_
          refine c_nil ?_
          refine ⟨sz1 (by show 4 ≤ 1000000; decide), fun p20 np20 => ?_⟩
          have s21 : Hs [] H [(p20, .lst ([V.int 0, V.int 0, V.int 0, V.int 0])), (p18, .lst ((cutI ns 12 (ns.length : Int)).map V.int)), (p_3, .ins A.c_Inode dx_4 [("kind", V.int (gi ns 0)), ("links", V.int (valN (cutI ns 1 3))), ("size", V.int (valN (cutI ns 3 7))), ("height", V.int (gi ns 7)), ("root", V.int (valN (cutI ns 8 10))), ("parent", V.int (valN (cutI ns 10 12)))]), (p1, .lst (ns.map V.int))] _ := s19.new np20 (.lst ([V.int 0, V.int 0, V.int 0, V.int 0]))
          refine ⟨.list ((cutI ns 12 (ns.length : Int)).map PyData.int), .list (([0, 0, 0, 0] : List Int).map PyData.int), (.lst (s21.l 1 rfl) (dp_ints (cutI ns 12 (ns.length : Int)))), (.lst (s21.l 0 rfl) (dp_ints ([0, 0, 0, 0] : List Int))), (by walk_at "shp"), (by walk_at "shp"), ?_⟩
          rw [eqvL_ints]
          exact kQ _ (s21.pick [2, 3] (by decide) rfl)
        · -- on
          refine k_set [some (V.ref a), some (V.ref p1), some (V.ref p_3), some (V.bl (decide (((gi ns 0) ∈ ([1, 2, 3] : List Int)) ∧ ((cutI ns 12 (ns.length : Int)) = ([0, 0, 0, 0] : List Int))))), none] rfl ?_
          refine s_if (p := ¬ (((gi ns 0) ∈ ([1, 2, 3] : List Int)) ∧ ((cutI ns 12 (ns.length : Int)) = ([0, 0, 0, 0] : List Int)))) (anot (vB (vv 3 rfl))) (fun h22 => ?_) (fun h22 => ?_)
          · -- then line 90
            refine s_ret (visN (vv 2 rfl)) ?_
            exfalso; first | exact absurd (enc_dec hl hbd hG) (by assumption) | exact absurd ((inoG_iff hl).mp hG) (by assumption) | exact absurd ((inoG_iff hl).mpr (Decidable.not_not.mp (by assumption))) hG | walk_at "dead"
          · -- else line 90
            refine s_nxs ?_
            refine c_ifS ?_
            refine c_or ?_
            refine (vtest (visN (vv 2 rfl))) _ ?_
            refine c_ite (p := V.ref p_3 = V.non) (fun h24 => ?_) (fun h24 => ?_)
            · -- yes
              exfalso; walk_at "dead"
            · -- no
              refine c_test ?_
              refine c_op ?_
              refine c_callx ?_
              refine c_cons ?_
              refine (vv 2 rfl) _ ?_
              refine c_nil ?_
              refine ⟨p_3, dx_4, (gi ns 0), (valN (cutI ns 1 3)), (valN (cutI ns 3 7)), (gi ns 7), (valN (cutI ns 8 10)), (valN (cutI ns 10 12)), rfl, (s14.mem 0 rfl), fun p_26 H27 r28 => ?_⟩
              have s29 : Hs [] H [(p_26, .lst ((encN (gi ns 0) (valN (cutI ns 1 3)) (valN (cutI ns 3 7)) (gi ns 7) (valN (cutI ns 8 10)) (valN (cutI ns 10 12))).map V.int)), (p_3, .ins A.c_Inode dx_4 [("kind", V.int (gi ns 0)), ("links", V.int (valN (cutI ns 1 3))), ("size", V.int (valN (cutI ns 3 7))), ("height", V.int (gi ns 7)), ("root", V.int (valN (cutI ns 8 10))), ("parent", V.int (valN (cutI ns 10 12)))]), (p1, .lst (ns.map V.int))] _ := s14.call0 r28
              refine (vv 0 rfl) _ ?_
              refine ⟨.list ((encN (gi ns 0) (valN (cutI ns 1 3)) (valN (cutI ns 3 7)) (gi ns 7) (valN (cutI ns 8 10)) (valN (cutI ns 10 12))).map PyData.int), .list (ns.map PyData.int), (.lst (s29.l 0 rfl) (dp_ints (encN (gi ns 0) (valN (cutI ns 1 3)) (valN (cutI ns 3 7)) (gi ns 7) (valN (cutI ns 8 10)) (valN (cutI ns 10 12))))), (.lst (s29.sq hS) (dp_ints ns)), (by walk_at "shp"), (by walk_at "shp"), ?_⟩
              rw [eqvL_ints, dec_not]
              refine ⟨_, rfl, ?_⟩
              refine c_ite (p := (encN (gi ns 0) (valN (cutI ns 1 3)) (valN (cutI ns 3 7)) (gi ns 7) (valN (cutI ns 8 10)) (valN (cutI ns 10 12))) ≠ ns) (fun h25 => ?_) (fun h25 => ?_)
              · -- yes
                refine s_ret vc ?_
                exfalso; first | exact absurd (enc_dec hl hbd hG) (by assumption) | exact absurd ((inoG_iff hl).mp hG) (by assumption) | exact absurd ((inoG_iff hl).mpr (Decidable.not_not.mp (by assumption))) hG | walk_at "dead"
              · -- no
                refine s_nxs ?_
                refine c_forL ?_
                refine c_callx ?_
                refine c_cons ?_
                refine (vv 2 rfl) _ ?_
                refine c_nil ?_
                refine ⟨p_3, dx_4, (gi ns 0), (valN (cutI ns 1 3)), (valN (cutI ns 3 7)), (gi ns 7), (valN (cutI ns 8 10)), (valN (cutI ns 10 12)), rfl, (s29.mem 1 rfl), fun p_30 H31 r32 => ?_⟩
                have s33 : Hs [] H [(p_30, .lst ([V.int (gi ns 0), V.int (valN (cutI ns 1 3)), V.int (valN (cutI ns 3 7)), V.int (gi ns 7), V.int (valN (cutI ns 8 10)), V.int (valN (cutI ns 10 12))])), (p_26, .lst ((encN (gi ns 0) (valN (cutI ns 1 3)) (valN (cutI ns 3 7)) (gi ns 7) (valN (cutI ns 8 10)) (valN (cutI ns 10 12))).map V.int)), (p_3, .ins A.c_Inode dx_4 [("kind", V.int (gi ns 0)), ("links", V.int (valN (cutI ns 1 3))), ("size", V.int (valN (cutI ns 3 7))), ("height", V.int (gi ns 7)), ("root", V.int (valN (cutI ns 8 10))), ("parent", V.int (valN (cutI ns 10 12)))]), (p1, .lst (ns.map V.int))] _ := s29.call0 r32
                refine k_forL ?_
                refine s_forL vc (s33.l 0 rfl) (fun i34 σ' H' => ∃ (y__law_value : Option V), σ' = [some (V.ref a), some (V.ref p1), some (V.ref p_3), some (V.bl (decide (((gi ns 0) ∈ ([1, 2, 3] : List Int)) ∧ ((cutI ns 12 (ns.length : Int)) = ([0, 0, 0, 0] : List Int))))), y__law_value] ∧ Hs [] H [(p_30, .lst ([V.int (gi ns 0), V.int (valN (cutI ns 1 3)), V.int (valN (cutI ns 3 7)), V.int (gi ns 7), V.int (valN (cutI ns 8 10)), V.int (valN (cutI ns 10 12))])), (p_26, .lst ((encN (gi ns 0) (valN (cutI ns 1 3)) (valN (cutI ns 3 7)) (gi ns 7) (valN (cutI ns 8 10)) (valN (cutI ns 10 12))).map V.int)), (p_3, .ins A.c_Inode dx_4 [("kind", V.int (gi ns 0)), ("links", V.int (valN (cutI ns 1 3))), ("size", V.int (valN (cutI ns 3 7))), ("height", V.int (gi ns 7)), ("root", V.int (valN (cutI ns 8 10))), ("parent", V.int (valN (cutI ns 10 12)))]), (p1, .lst (ns.map V.int))] H') ?_ ?_ ?_ ?_
                · -- start
                  refine ⟨_, rfl, s33.pick [0, 1, 2, 3] (by decide) (by walk_at "finL")⟩
                · intro i34 σ' H' _ hP; obtain ⟨y__law_value, rfl, sI⟩ := hP
                  exact sI.l 0 rfl
                · intro i34 x36 σ' H' h35 hP; obtain ⟨y__law_value, rfl, sI⟩ := hP
                  obtain ⟨n37, rfl, h35n⟩ := map_int_get (xs := [(gi ns 0), (valN (cutI ns 1 3)), (valN (cutI ns 3 7)), (gi ns 7), (valN (cutI ns 8 10)), (valN (cutI ns 10 12))]) h35
                  refine c_sig [some (V.ref a), some (V.ref p1), some (V.ref p_3), some (V.bl (decide (((gi ns 0) ∈ ([1, 2, 3] : List Int)) ∧ ((cutI ns 12 (ns.length : Int)) = ([0, 0, 0, 0] : List Int))))), some (V.int n37)] rfl ?_
                  refine s_if (p := ¬ (true = true)) (anot (vB (vbool (vcall (va (vv 4 rfl) va0) (fun _ kC => ⟨n37, rfl, kC⟩))))) (fun h38 => ?_) (fun h38 => ?_)
                  · -- then line 95
                    exfalso; walk_at "dead"
                  · -- else line 95
                    refine s_nxs ?_
                    refine s_nx ?_
                    refine ⟨_, rfl, sI.pick [0, 1, 2, 3] (by decide) (by walk_at "finL")⟩
                · intro σ' H' hP; obtain ⟨y__law_value, rfl, sI⟩ := hP
                  refine c_ret ?_
                  refine c_callx ?_
                  refine c_cons ?_
                  refine c_prop (vv 2 rfl) (sI.mem 2 rfl) ?_
                  refine ⟨p_3, dx_4, (gi ns 0), (valN (cutI ns 1 3)), (valN (cutI ns 3 7)), (gi ns 7), (valN (cutI ns 8 10)), (valN (cutI ns 10 12)), rfl, (sI.mem 2 rfl), ?_⟩
                  refine c_cons ?_
                  refine (veq (vixL (vv 0 rfl) vc (xs := (ns.map V.int)) (sI.sq hS) (at_gi (by walk_at "side") (by walk_at "side"))) vc) _ ?_
                  refine c_nil ?_
                  refine ⟨(decide ((gi ns 0) = 2)), (decide ((gi ns 0) = 2)), rfl, ?_⟩
                  have s39 : Hs [] H [] _ := (sI.pick [] (by decide) (by walk_at "finL"))
                  exact fin (kq  _ s39 ) (by first | rfl | (simp; done) | (simp_all; done))
    · -- case False
      refine c_set ?_
      refine c_callx ?_
      refine c_cons ?_
      refine (vv 1 rfl) _ ?_
      refine c_nil ?_
      refine .inr ⟨p1, ns, rfl, (s2.l 0 rfl), (by walk_at "side"), (by assumption), fun H40 r41 => ?_⟩
      have s42 : Hs [] H [(p1, .lst (ns.map V.int))] _ := s2.call0 r41
      refine k_set [some (V.ref a), some (V.ref p1), some (V.non), none, none] rfl ?_
      refine c_ifS ?_
      refine c_test ?_
      refine c_op ?_
      refine (vv 1 rfl) _ ?_
      refine (vv 0 rfl) _ ?_
      refine ⟨.list (ns.map PyData.int), .list (ns.map PyData.int), (.lst (s42.l 0 rfl) (dp_ints ns)), (.lst (s42.sq hS) (dp_ints ns)), (by walk_at "shp"), (by walk_at "shp"), ?_⟩
      rw [show PyData.eqv (.list (ns.map PyData.int)) (.list (ns.map PyData.int)) = true from SeqAt.eqv_refl _ (SeqAt.canLay_of_shaped (by walk_at "shp"))]
      refine ⟨_, rfl, ?_⟩
      refine c_iteB (fun h44 => ?_) (fun h44 => ?_)
      · -- yes
        exfalso; walk_at "dead"
      · -- no
        refine s_nxs ?_
        refine c_set ?_
        refine c_andW (p := (gi ns 0) ∈ ([1, 2, 3] : List Int)) (q := (cutI ns 12 (ns.length : Int)) = ([0, 0, 0, 0] : List Int)) s42 (fun Q' kQ => ?_) (fun H46 s47 h45 Q' kQ => ?_) (fun H48 s49 => ?_)
        · -- the first part
          refine c_op ?_
          obtain ⟨n50, en50⟩ : ∃ n : Int, n = (gi ns 0) := ⟨_, rfl⟩
          refine (vis (vixL (vv 0 rfl) vc (xs := (ns.map V.int)) (s42.sq hS) (at_gi (by walk_at "side") (by walk_at "side"))) (congrArg V.int en50.symm)) _ ?_
          refine c_lst ?_
          refine c_cons ?_
          refine vc _ ?_
          refine c_cons ?_
          refine vc _ ?_
          refine c_cons ?_
          refine vc _ ?_
          refine c_nil ?_
          refine ⟨sz1 (by show 3 ≤ 1000000; decide), fun p51 np51 => ?_⟩
          have s52 : Hs [] H [(p51, .lst ([V.int 1, V.int 2, V.int 3])), (p1, .lst (ns.map V.int))] _ := s42.new np51 (.lst ([V.int 1, V.int 2, V.int 3]))
          refine r_in (ns := ([1, 2, 3] : List Int)) (.inl (s52.l 0 rfl)) ?_
          subst en50
          exact kQ _ (s52.pick [1] (by decide) rfl)
        · -- the second part
          refine c_op ?_
          refine (vv 0 rfl) _ ((vp1 vc) _ (vp0 _ (r_slL (s47.sq hS) (by show (0 : Int) ≤ 12; walk_at "side") (by show (12 : Int) ≤ (ns.length : Int); walk_at "side") (by show (0 : Int) ≤ (ns.length : Int); walk_at "side") (by show ((ns.length : Int) : Int) ≤ (ns.length : Int); walk_at "side") fun p53 np53 => ?_)))
          have s54 : Hs [] H [(p53, .lst ((cutI ns 12 (ns.length : Int)).map V.int)), (p1, .lst (ns.map V.int))] _ := s47.new np53 (.lst ((cutI ns 12 (ns.length : Int)).map V.int))
          refine c_lst ?_
          refine c_cons ?_
          refine vc _ ?_
          refine c_cons ?_
          refine vc _ ?_
          refine c_cons ?_
          refine vc _ ?_
          refine c_cons ?_
          refine vc _ ?_
          refine c_nil ?_
          refine ⟨sz1 (by show 4 ≤ 1000000; decide), fun p55 np55 => ?_⟩
          have s56 : Hs [] H [(p55, .lst ([V.int 0, V.int 0, V.int 0, V.int 0])), (p53, .lst ((cutI ns 12 (ns.length : Int)).map V.int)), (p1, .lst (ns.map V.int))] _ := s54.new np55 (.lst ([V.int 0, V.int 0, V.int 0, V.int 0]))
          refine ⟨.list ((cutI ns 12 (ns.length : Int)).map PyData.int), .list (([0, 0, 0, 0] : List Int).map PyData.int), (.lst (s56.l 1 rfl) (dp_ints (cutI ns 12 (ns.length : Int)))), (.lst (s56.l 0 rfl) (dp_ints ([0, 0, 0, 0] : List Int))), (by walk_at "shp"), (by walk_at "shp"), ?_⟩
          rw [eqvL_ints]
          exact kQ _ (s56.pick [2] (by decide) rfl)
        · -- on
          refine k_set [some (V.ref a), some (V.ref p1), some (V.non), some (V.bl (decide (((gi ns 0) ∈ ([1, 2, 3] : List Int)) ∧ ((cutI ns 12 (ns.length : Int)) = ([0, 0, 0, 0] : List Int))))), none] rfl ?_
          refine s_if (p := ¬ (((gi ns 0) ∈ ([1, 2, 3] : List Int)) ∧ ((cutI ns 12 (ns.length : Int)) = ([0, 0, 0, 0] : List Int)))) (anot (vB (vv 3 rfl))) (fun h57 => ?_) (fun h57 => ?_)
          · -- then line 90
            refine s_ret (visN (vv 2 rfl)) ?_
            have s58 : Hs [] H [] _ := (s49.pick [] (by decide) (by walk_at "finL"))
            exact fin (kq  _ s58 ) (by first | rfl | (simp; done) | (simp_all; done))
          · -- else line 90
            refine s_nxs ?_
            refine c_ifS ?_
            refine c_or ?_
            refine (vtest (visN (vv 2 rfl))) _ ?_
            refine c_ite (p := V.non = V.non) (fun h60 => ?_) (fun h60 => ?_)
            · -- yes
              refine iteT ?_
              refine s_ret vc ?_
              exfalso; first | exact absurd (enc_dec hl hbd hG) (by assumption) | exact absurd ((inoG_iff hl).mp hG) (by assumption) | exact absurd ((inoG_iff hl).mpr (Decidable.not_not.mp (by assumption))) hG | walk_at "dead"
            · -- no
              exfalso; walk_at "dead"
def sp_law0 (K : PySem.W.Frag) : Sp := fun vs H Q _ => ∃ (a : Addr) (ns : List Int), vs = [.ref a] ∧ SqL K H a (ns.map V.int) ∧ ns.length ≤ 63 ∧ ∀ H', Q (.bl true) H'
abbrev sp_law (K : PySem.W.Frag) (_ : Ads) : Sp := sp_law0 K
theorem ok_law (T : Txt K mg A) : FnOk P w K mg base CX0 5 A.a_law A.d_law ["_law_script"] (sp_law K A) := by
  have G__law_drawn : FnOk P w K mg base CX0 2 A.a__law_drawn A.d__law_drawn ["_law_script"] (sp__law_drawn K A) := ok__law_drawn T
  have G_Inode___init__ : FnOk P w K mg base CX0 1 A.a_Inode___init__ A.d_Inode___init__ ["self", "kind", "links", "size", "height", "root", "parent"] (sp_Inode___init__ K A) := ok_Inode___init__ T
  have G__law_fields : FnOk P w K mg base CX0 1 A.a__law_fields A.d__law_fields ["_law_inode"] (sp__law_fields K A) := ok__law_fields T
  have G__law_is : FnOk P w K mg base CX0 1 A.a__law_is A.d__law_is ["_law_actual", "_law_due"] (sp__law_is K A) := ok__law_is T
  have G_Inode_is_directory : FnOk P w K mg base CX0 1 A.a_Inode_is_directory A.d_Inode_is_directory ["self"] (sp_Inode_is_directory K A) := ok_Inode_is_directory T
  have G_encode_inode : FnOk P w K mg base CX0 2 A.a_encode_inode A.d_encode_inode ["inode"] (sp_encode_inode K A) := ok_encode_inode T
  have G__law_octets : FnOk P w K mg base CX0 1 A.a__law_octets A.d__law_octets ["_law_fields_here"] (sp__law_octets K A) := ok__law_octets T
  have G_decode_inode : FnOk P w K mg base CX0 3 A.a_decode_inode A.d_decode_inode ["octets"] (sp_decode_inode K A) := ok_decode_inode T
  have G__law_reads : FnOk P w K mg base CX0 4 A.a__law_reads A.d__law_reads ["_law_octets_here"] (sp__law_reads K A) := ok__law_reads T
  have G__law_row : FnOk P w K mg base CX0 1 A.a__law_row A.d__law_row ["_law_script", "_law_k"] (sp__law_row K A) := ok__law_row T
  obtain ⟨ds_Inode___init___2, vs_Inode___init___2, bs_Inode___init___2⟩ := T.b_Inode___init___2
  obtain ⟨ds_Inode___init___7, vs_Inode___init___7, bs_Inode___init___7⟩ := T.b_Inode___init___7
  obtain ⟨is_Inode___init___2_parent, kb_Inode___init___2_parent⟩ := T.kb_Inode___init___2_parent
  refine T.F_law.ok sc_law (fun vs H Q E h => ?_) (fun cdv A' outer s H vs Q E hRm h => ?_)
  · obtain ⟨a, ns, rfl, _⟩ := h
    rfl
  · obtain ⟨a, ns, rfl, hS, hlen, kq⟩ := h
    have hUn := hu_of hRm
    have s0 : Hs [] H [] H := Hs.start H
    refine ⟨_, (pss_cons (ps_if (pt_cmpR (op_neD hRm.units) (pe_lst (pa_cons (pe_glob (v := .int 1) (by rfl) T.k_FILE (by exact ⟨_, rfl⟩)) (pa_cons (pe_glob (v := .int 2) (by rfl) T.k_DIRECTORY (by exact ⟨_, rfl⟩)) (pa_cons (pe_glob (v := .int 3) (by rfl) T.k_LINK (by exact ⟨_, rfl⟩)) (pa_cons (pe_glob (v := .int 16) (by rfl) T.k_INODE_OCTETS (by exact ⟨_, rfl⟩)) pa_nil))))) (pe_lst (pa_cons pe_int (pa_cons pe_int (pa_cons pe_int (pa_cons pe_int pa_nil))))) (nomark _)) (pss_cons ps_never pss_nil) pss_nil) (pss_cons (ps_set (i := 1) sc_law.nd rfl (.inl rfl) (pe_call G__law_drawn (hRm.mono (by decide)) (by rfl) T.g__law_drawn T.F__law_drawn.kp T.b__law_drawn .nil pass0 (pa_cons (pv 0) pa_nil))) (pss_cons (ps_set (i := 2) sc_law.nd rfl (.inl rfl) (pe_make T.mk_Inode G_Inode___init__ (hRm.mono (by decide)) (by rfl) T.g_Inode bs_Inode___init___7 vs_Inode___init___7 pass0 (pa_cons (pe_ix ix_list (pv 1) pe_int (fun _ _ => rfl)) (pa_cons (pe_ix ix_list (pv 1) pe_int (fun _ _ => rfl)) (pa_cons (pe_ix ix_list (pv 1) pe_int (fun _ _ => rfl)) (pa_cons (pe_ix ix_list (pv 1) pe_int (fun _ _ => rfl)) (pa_cons (pe_ix ix_list (pv 1) pe_int (fun _ _ => rfl)) (pa_cons (pe_ix ix_list (pv 1) pe_int (fun _ _ => rfl)) pa_nil)))))))) (pss_cons (ps_if (pw_or (pt_cmpR (op_neD hRm.units) (pe_call G__law_fields (hRm.mono (by decide)) (by rfl) T.g__law_fields T.F__law_fields.kp T.b__law_fields .nil pass0 (pa_cons (pv 2) pa_nil)) (pv 1) (nomark _)) (pw_or1 (pt_not (pt_val (pe_call G__law_is (hRm.mono (by decide)) (by rfl) T.g__law_is T.F__law_is.kp T.b__law_is .nil pass0 (pa_cons (pe_prop (pv 2) T.cl_Inode T.pr_Inode_is_directory G_Inode_is_directory (hRm.mono (by decide)) T.b_Inode_is_directory .nil pass0 (by rfl)) (pa_cons (pe_cmpR op_eq (pe_ix ix_list (pv 1) pe_int (fun _ _ => rfl)) pe_int (nomark _)) pa_nil))) (fun _ => rfl))))).pt (pss_cons (ps_ret pe_bl) pss_nil) pss_nil) (pss_cons (ps_set (i := 3) sc_law.nd rfl (.inl rfl) (pe_call G_encode_inode (hRm.mono (by decide)) (by rfl) T.g_encode_inode T.F_encode_inode.kp T.b_encode_inode .nil pass0 (pa_cons (pv 2) pa_nil))) (pss_cons (ps_if (pw_or (pt_not (pt_val (pe_callB call_isi (by rfl) T.z_isinstance (by decide +kernel) (pa_cons (pv 3) (pa_cons (pe_bltn (v := .ty "list") (u := .type "list") (by rfl) T.z_list (by decide +kernel) rfl) pa_nil))) (fun _ => rfl))) (pw_or1 (pt_cmpR (op_neD hRm.units) (pv 3) (pe_call G__law_octets (hRm.mono (by decide)) (by rfl) T.g__law_octets T.F__law_octets.kp T.b__law_octets .nil pass0 (pa_cons (pv 1) pa_nil)) (nomark _)))).pt (pss_cons (ps_ret pe_bl) pss_nil) pss_nil) (pss_cons (ps_set (i := 4) sc_law.nd rfl (.inl rfl) (pe_call G_decode_inode (hRm.mono (by decide)) (by rfl) T.g_decode_inode T.F_decode_inode.kp T.b_decode_inode .nil pass0 (pa_cons (pv 3) pa_nil))) (pss_cons (ps_if (pw_or (pt_cmpR op_isN (pv 4) pe_non (nomark _)) (pw_or (pt_cmpR (op_neD hRm.units) (pe_call G__law_fields (hRm.mono (by decide)) (by rfl) T.g__law_fields T.F__law_fields.kp T.b__law_fields .nil pass0 (pa_cons (pv 4) pa_nil)) (pv 1) (nomark _)) (pw_or1 (pt_not (pt_val (pe_call G__law_reads (hRm.mono (by decide)) (by rfl) T.g__law_reads T.F__law_reads.kp T.b__law_reads .nil pass0 (pa_cons (pv 3) pa_nil)) (fun _ => rfl)))))).pt (pss_cons (ps_ret pe_bl) pss_nil) pss_nil) (pss_cons (ps_expr (pe_bm PySem.F.plainAttrs_list PySem.F.slot_list_append PySem.F.type_list_append mt_append (pv 3) (pa_cons pe_int pa_nil))) (pss_cons (ps_if (pw_or (pt_cmpR (op_neD hRm.units) (pe_call G_encode_inode (hRm.mono (by decide)) (by rfl) T.g_encode_inode T.F_encode_inode.kp T.b_encode_inode .nil pass0 (pa_cons (pv 2) pa_nil)) (pe_call G__law_octets (hRm.mono (by decide)) (by rfl) T.g__law_octets T.F__law_octets.kp T.b__law_octets .nil pass0 (pa_cons (pv 1) pa_nil)) (nomark _)) (pw_or1 (pt_cmpR (op_neD hRm.units) (pe_call G__law_fields (hRm.mono (by decide)) (by rfl) T.g__law_fields T.F__law_fields.kp T.b__law_fields .nil pass0 (pa_cons (pv 2) pa_nil)) (pv 1) (nomark _)))).pt (pss_cons (ps_ret pe_bl) pss_nil) pss_nil) (pss_cons (ps_set (i := 5) sc_law.nd rfl (.inl rfl) (pe_call G__law_row (hRm.mono (by decide)) (by rfl) T.g__law_row T.F__law_row.kp T.b__law_row .nil pass0 (pa_cons (pv 0) (pa_cons pe_int pa_nil)))) (pss_cons (ps_set (i := 3) sc_law.nd rfl (.inl rfl) (pe_call G__law_octets (hRm.mono (by decide)) (by rfl) T.g__law_octets T.F__law_octets.kp T.b__law_octets .nil pass0 (pa_cons (pv 1) pa_nil))) (pss_cons (ps_set (i := 6) sc_law.nd rfl (.inl rfl) (pe_op op_mod (pe_callTy call_int1 (by rfl) T.z_int (by decide +kernel) (pa_cons (pv 5) pa_nil)) pe_int)) (pss_cons (ps_asg (pe_ix ix_list (pe_lst (pa_cons pe_int (pa_cons pe_int (pa_cons pe_int (pa_cons pe_int (pa_cons pe_int (pa_cons pe_int (pa_cons (pe_op op_mod (pe_op op_fdiv (pe_callTy call_int1 (by rfl) T.z_int (by decide +kernel) (pa_cons (pv 5) pa_nil)) pe_int) pe_int) pa_nil)))))))) (pe_op op_mod (pe_op op_fdiv (pe_callTy call_int1 (by rfl) T.z_int (by decide +kernel) (pa_cons (pv 5) pa_nil)) pe_int) pe_int) (fun _ _ => rfl)) (pg_sub (pv 3) (pv 6) set_list)) (pss_cons (ps_if (pt_not (pt_val (pe_call G__law_reads (hRm.mono (by decide)) (by rfl) T.g__law_reads T.F__law_reads.kp T.b__law_reads .nil pass0 (pa_cons (pv 3) pa_nil)) (fun _ => rfl))) (pss_cons ps_never pss_nil) pss_nil) (pss_cons (ps_set (i := 7) sc_law.nd rfl (.inl rfl) (pe_callTy call_int1 (by rfl) T.z_int (by decide +kernel) (pa_cons (pe_call G__law_row (hRm.mono (by decide)) (by rfl) T.g__law_row T.F__law_row.kp T.b__law_row .nil pass0 (pa_cons (pv 0) (pa_cons pe_int pa_nil))) pa_nil))) (pss_cons (ps_set (i := 3) sc_law.nd rfl (.inl rfl) (pe_lst pa_nil)) (pss_cons (ps_for PassesOwn.never rfl (pi_range1 rfl T.z_range (pa_cons pe_int pa_nil)) (pg_name (i := 8) sc_law.nd rfl (.inl rfl)) (pss_cons (ps_expr (pe_bm PySem.F.plainAttrs_list PySem.F.slot_list_append PySem.F.type_list_append mt_append (pv 3) (pa_cons (pe_op op_mul (pe_op op_mod (pv 7) pe_int) (pe_callTy call_int1 (by rfl) T.z_int (by decide +kernel) (pa_cons (pe_or (pe_cmpR op_lt (pv 8) pe_int (nomark _)) (pe_one (pe_cmpR op_eq (pe_op op_mod (pv 7) pe_int) pe_int (nomark _)))) pa_nil))) pa_nil))) (pss_cons (ps_set (i := 7) sc_law.nd rfl (.inl rfl) (pe_op op_fdiv (pv 7) pe_int)) pss_nil))) (pss_cons (ps_asg (pe_op op_mod (pv 7) pe_int) (pg_sub (pv 3) pe_int set_list)) (pss_cons (ps_if (pw_or (pt_not (pt_val (pe_call G__law_reads (hRm.mono (by decide)) (by rfl) T.g__law_reads T.F__law_reads.kp T.b__law_reads .nil pass0 (pa_cons (pv 3) pa_nil)) (fun _ => rfl))) (pw_or1 (pt_not (pt_val (pe_call G__law_reads (hRm.mono (by decide)) (by rfl) T.g__law_reads T.F__law_reads.kp T.b__law_reads .nil pass0 (pa_cons (pe_op op_rep (pe_lst (pa_cons pe_int pa_nil)) pe_int) pa_nil)) (fun _ => rfl))))).pt (pss_cons ps_never pss_nil) pss_nil) (pss_cons (ps_ret (pe_and (pe_cmpR (op_eqD hRm.units) (pe_call G__law_fields (hRm.mono (by decide)) (by rfl) T.g__law_fields T.F__law_fields.kp T.b__law_fields .nil pass0 (pa_cons (pe_make T.mk_Inode G_Inode___init__ (hRm.mono (by decide)) (by rfl) T.g_Inode bs_Inode___init___2 vs_Inode___init___2 pass0 (pa_cons (pe_glob (v := .int 1) (by rfl) T.k_FILE (by exact ⟨_, rfl⟩)) pa_nil)) pa_nil)) (pe_lst (pa_cons pe_int (pa_cons pe_int (pa_cons pe_int (pa_cons pe_int (pa_cons pe_int (pa_cons pe_int pa_nil))))))) (nomark _)) (pe_one (pe_cmpR (op_eqD hRm.units) (pe_call G__law_fields (hRm.mono (by decide)) (by rfl) T.g__law_fields T.F__law_fields.kp T.b__law_fields .nil pass0 (pa_cons (pe_makeN (n := 1) T.mk_Inode G_Inode___init__ (hRm.mono (by decide)) (by rfl) T.g_Inode kb_Inode___init___2_parent pass0 (pa_cons (pe_glob (v := .int 3) (by rfl) T.k_LINK (by exact ⟨_, rfl⟩)) pa_nil) (pk_cons pe_int pk_nil)) pa_nil)) (pe_lst (pa_cons pe_int (pa_cons pe_int (pa_cons pe_int (pa_cons pe_int (pa_cons pe_int (pa_cons pe_int pa_nil))))))) (nomark _))))) pss_nil))))))))))))))))))))), ?_⟩
    refine c_sig [some (V.ref a), none, none, none, none, none, none, none, none] rfl ?_
    refine c_ifS ?_
    refine c_test ?_
    refine c_op ?_
    refine c_lst ?_
    refine c_cons ?_
    refine vc _ ?_
    refine c_cons ?_
    refine vc _ ?_
    refine c_cons ?_
    refine vc _ ?_
    refine c_cons ?_
    refine vc _ ?_
    refine c_nil ?_
    refine ⟨sz1 (by show 4 ≤ 1000000; decide), fun p3 np3 => ?_⟩
    have s4 : Hs [] H [(p3, .lst ([V.int 1, V.int 2, V.int 3, V.int 16]))] _ := s0.new np3 (.lst ([V.int 1, V.int 2, V.int 3, V.int 16]))
    refine c_lst ?_
    refine c_cons ?_
    refine vc _ ?_
    refine c_cons ?_
    refine vc _ ?_
    refine c_cons ?_
    refine vc _ ?_
    refine c_cons ?_
    refine vc _ ?_
    refine c_nil ?_
    refine ⟨sz1 (by show 4 ≤ 1000000; decide), fun p5 np5 => ?_⟩
    have s6 : Hs [] H [(p5, .lst ([V.int 1, V.int 2, V.int 3, V.int 16])), (p3, .lst ([V.int 1, V.int 2, V.int 3, V.int 16]))] _ := s4.new np5 (.lst ([V.int 1, V.int 2, V.int 3, V.int 16]))
    refine ⟨.list (([1, 2, 3, 16] : List Int).map PyData.int), .list (([1, 2, 3, 16] : List Int).map PyData.int), (.lst (s6.l 1 rfl) (dp_ints ([1, 2, 3, 16] : List Int))), (.lst (s6.l 0 rfl) (dp_ints ([1, 2, 3, 16] : List Int))), (by walk_at "shp"), (by walk_at "shp"), ?_⟩
    rw [show PyData.eqv (.list (([1, 2, 3, 16] : List Int).map PyData.int)) (.list (([1, 2, 3, 16] : List Int).map PyData.int)) = true from SeqAt.eqv_refl _ (SeqAt.canLay_of_shaped (by walk_at "shp"))]
    refine ⟨_, rfl, ?_⟩
    refine c_iteB (fun h2 => ?_) (fun h2 => ?_)
    · -- yes
      exfalso; walk_at "dead"
    · -- no
      refine s_nxs ?_
      refine c_set ?_
      refine c_callx ?_
      refine c_cons ?_
      refine (vv 0 rfl) _ ?_
      refine c_nil ?_
      refine ⟨a, ns, rfl, (s6.sq hS), fun p_7 fa_8 fb_9 fc_10 fd_11 fe_12 ff_13 H14 r15 f16 => ?_⟩
      have s17 : Hs [] H [(p_7, .lst ([V.int fa_8, V.int fb_9, V.int fc_10, V.int fd_11, V.int fe_12, V.int ff_13])), (p5, .lst ([V.int 1, V.int 2, V.int 3, V.int 16])), (p3, .lst ([V.int 1, V.int 2, V.int 3, V.int 16]))] _ := s6.call0 r15
      refine k_set [some (V.ref a), some (V.ref p_7), none, none, none, none, none, none, none] rfl ?_
      refine c_set ?_
      refine c_make ?_
      refine c_cons ?_
      refine (vixL (vv 1 rfl) vc (xs := _) (s17.l 0 rfl) (by rfl)) _ ?_
      refine c_cons ?_
      refine (vixL (vv 1 rfl) vc (xs := _) (s17.l 0 rfl) (by rfl)) _ ?_
      refine c_cons ?_
      refine (vixL (vv 1 rfl) vc (xs := _) (s17.l 0 rfl) (by rfl)) _ ?_
      refine c_cons ?_
      refine (vixL (vv 1 rfl) vc (xs := _) (s17.l 0 rfl) (by rfl)) _ ?_
      refine c_cons ?_
      refine (vixL (vv 1 rfl) vc (xs := _) (s17.l 0 rfl) (by rfl)) _ ?_
      refine c_cons ?_
      refine (vixL (vv 1 rfl) vc (xs := _) (s17.l 0 rfl) (by rfl)) _ ?_
      refine c_nil ?_
      intro p18 d19 np18 nd19 nep18
      have s20 := (s17.new nd19 (.own p18)).new (upd_none np18 nep18) (.ins A.c_Inode d19 [])
      refine ⟨p18, d19, fa_8, fb_9, fc_10, fd_11, fe_12, ff_13, rfl, (s20.mem 0 rfl), fun H21 r22 => ?_⟩
      have s23 : Hs [] H [(p18, .ins A.c_Inode d19 [("kind", V.int fa_8), ("links", V.int fb_9), ("size", V.int fc_10), ("height", V.int fd_11), ("root", V.int fe_12), ("parent", V.int ff_13)]), (d19, .own p18), (p_7, .lst ([V.int fa_8, V.int fb_9, V.int fc_10, V.int fd_11, V.int fe_12, V.int ff_13])), (p5, .lst ([V.int 1, V.int 2, V.int 3, V.int 16])), (p3, .lst ([V.int 1, V.int 2, V.int 3, V.int 16]))] _ := s20.call (R := [(d19, .own p18), (p_7, .lst ([V.int fa_8, V.int fb_9, V.int fc_10, V.int fd_11, V.int fe_12, V.int ff_13])), (p5, .lst ([V.int 1, V.int 2, V.int 3, V.int 16])), (p3, .lst ([V.int 1, V.int 2, V.int 3, V.int 16]))]) r22 [1, 2, 3, 4] (by simp) (by decide) rfl (s20.sep [1, 2, 3, 4] [0] (by decide) rfl rfl)
      refine ⟨rfl, ?_⟩
      refine k_set [some (V.ref a), some (V.ref p_7), some (V.ref p18), none, none, none, none, none, none] rfl ?_
      refine c_ifS ?_
      refine c_or ?_
      refine c_test ?_
      refine c_op ?_
      refine c_callx ?_
      refine c_cons ?_
      refine (vv 2 rfl) _ ?_
      refine c_nil ?_
      refine ⟨p18, d19, fa_8, fb_9, fc_10, fd_11, fe_12, ff_13, rfl, (s23.mem 0 rfl), fun p_26 H27 r28 => ?_⟩
      have s29 : Hs [] H [(p_26, .lst ([V.int fa_8, V.int fb_9, V.int fc_10, V.int fd_11, V.int fe_12, V.int ff_13])), (p18, .ins A.c_Inode d19 [("kind", V.int fa_8), ("links", V.int fb_9), ("size", V.int fc_10), ("height", V.int fd_11), ("root", V.int fe_12), ("parent", V.int ff_13)]), (d19, .own p18), (p_7, .lst ([V.int fa_8, V.int fb_9, V.int fc_10, V.int fd_11, V.int fe_12, V.int ff_13])), (p5, .lst ([V.int 1, V.int 2, V.int 3, V.int 16])), (p3, .lst ([V.int 1, V.int 2, V.int 3, V.int 16]))] _ := s23.call0 r28
      refine (vv 1 rfl) _ ?_
      refine ⟨.list (([fa_8, fb_9, fc_10, fd_11, fe_12, ff_13]).map PyData.int), .list (([fa_8, fb_9, fc_10, fd_11, fe_12, ff_13]).map PyData.int), (.lst (s29.l 0 rfl) (dp_ints ([fa_8, fb_9, fc_10, fd_11, fe_12, ff_13]))), (.lst (s29.l 3 rfl) (dp_ints ([fa_8, fb_9, fc_10, fd_11, fe_12, ff_13]))), (by walk_at "shp"), (by walk_at "shp"), ?_⟩
      rw [show PyData.eqv (.list (([fa_8, fb_9, fc_10, fd_11, fe_12, ff_13]).map PyData.int)) (.list (([fa_8, fb_9, fc_10, fd_11, fe_12, ff_13]).map PyData.int)) = true from SeqAt.eqv_refl _ (SeqAt.canLay_of_shaped (by walk_at "shp"))]
      refine ⟨_, rfl, ?_⟩
      refine c_iteB (fun h25 => ?_) (fun h25 => ?_)
      · -- yes
        exfalso; walk_at "dead"
      · -- no
        refine c_not ?_
        refine c_tB ?_
        refine c_callx ?_
        refine c_cons ?_
        refine c_prop (vv 2 rfl) (s29.mem 1 rfl) ?_
        refine ⟨p18, d19, fa_8, fb_9, fc_10, fd_11, fe_12, ff_13, rfl, (s29.mem 1 rfl), ?_⟩
        refine c_cons ?_
        refine (veq (vixL (vv 1 rfl) vc (xs := _) (s29.l 3 rfl) (by rfl)) vc) _ ?_
        refine c_nil ?_
        refine ⟨(decide (fa_8 = 2)), (decide (fa_8 = 2)), rfl, ?_⟩
        refine ⟨_, rfl, ?_⟩
        refine c_iten (p := (decide (fa_8 = 2)) = (decide (fa_8 = 2))) (fun h30 => ?_) (fun h30 => ?_)
        · -- no
          refine s_ret vc ?_
          exfalso; first | exact absurd (dec_enc (by assumption)) (by assumption) | walk_at "dead"
        · -- yes
          refine s_nxs ?_
          refine c_set ?_
          refine c_callx ?_
          refine c_cons ?_
          refine (vv 2 rfl) _ ?_
          refine c_nil ?_
          refine ⟨p18, d19, fa_8, fb_9, fc_10, fd_11, fe_12, ff_13, rfl, (s29.mem 1 rfl), fun p_31 H32 r33 => ?_⟩
          have s34 : Hs [] H [(p_31, .lst ((encN fa_8 fb_9 fc_10 fd_11 fe_12 ff_13).map V.int)), (p_26, .lst ([V.int fa_8, V.int fb_9, V.int fc_10, V.int fd_11, V.int fe_12, V.int ff_13])), (p18, .ins A.c_Inode d19 [("kind", V.int fa_8), ("links", V.int fb_9), ("size", V.int fc_10), ("height", V.int fd_11), ("root", V.int fe_12), ("parent", V.int ff_13)]), (d19, .own p18), (p_7, .lst ([V.int fa_8, V.int fb_9, V.int fc_10, V.int fd_11, V.int fe_12, V.int ff_13])), (p5, .lst ([V.int 1, V.int 2, V.int 3, V.int 16])), (p3, .lst ([V.int 1, V.int 2, V.int 3, V.int 16]))] _ := s29.call0 r33
          refine k_set [some (V.ref a), some (V.ref p_7), some (V.ref p18), some (V.ref p_31), none, none, none, none, none] rfl ?_
          refine c_ifS ?_
          refine c_or ?_
          refine c_not ?_
          refine (vB (vbool (visi (b := true) (tu := .type "list") (vv 3 rfl) vc (ClsV.ty "list") (.base (.lst (s34.mem 0 rfl))) (kit_ty (by decide +kernel))))) _ ?_
          refine c_iten (p := true = true) (fun h36 => ?_) (fun h36 => ?_)
          · -- no
            exfalso; walk_at "dead"
          · -- yes
            refine c_test ?_
            refine c_op ?_
            refine (vv 3 rfl) _ ?_
            refine c_callx ?_
            refine c_cons ?_
            refine (vv 1 rfl) _ ?_
            refine c_nil ?_
            refine ⟨p_7, fa_8, fb_9, fc_10, fd_11, fe_12, ff_13, rfl, (s34.l 4 rfl), (by assumption), fun p_38 ws_39 H40 r41 f42 f43 => ?_⟩
            have s44 : Hs [] H [(p_38, .lst (ws_39.map V.int)), (p_31, .lst ((encN fa_8 fb_9 fc_10 fd_11 fe_12 ff_13).map V.int)), (p_26, .lst ([V.int fa_8, V.int fb_9, V.int fc_10, V.int fd_11, V.int fe_12, V.int ff_13])), (p18, .ins A.c_Inode d19 [("kind", V.int fa_8), ("links", V.int fb_9), ("size", V.int fc_10), ("height", V.int fd_11), ("root", V.int fe_12), ("parent", V.int ff_13)]), (d19, .own p18), (p_7, .lst ([V.int fa_8, V.int fb_9, V.int fc_10, V.int fd_11, V.int fe_12, V.int ff_13])), (p5, .lst ([V.int 1, V.int 2, V.int 3, V.int 16])), (p3, .lst ([V.int 1, V.int 2, V.int 3, V.int 16]))] _ := s34.call0 r41
            refine ⟨.list ((encN fa_8 fb_9 fc_10 fd_11 fe_12 ff_13).map PyData.int), .list (ws_39.map PyData.int), (.lst (s44.l 1 rfl) (dp_ints (encN fa_8 fb_9 fc_10 fd_11 fe_12 ff_13))), (.lst (s44.l 0 rfl) (dp_ints ws_39)), (by walk_at "shp"), (by walk_at "shp"), ?_⟩
            rw [eqvL_ints, dec_not]
            refine ⟨_, rfl, ?_⟩
            refine c_ite (p := (encN fa_8 fb_9 fc_10 fd_11 fe_12 ff_13) ≠ ws_39) (fun h37 => ?_) (fun h37 => ?_)
            · -- yes
              refine s_ret vc ?_
              exfalso; first | exact absurd (dec_enc (by assumption)) (by assumption) | walk_at "dead"
            · -- no
              refine s_nxs ?_
              refine c_set ?_
              refine c_callx ?_
              refine c_cons ?_
              refine (vv 3 rfl) _ ?_
              refine c_nil ?_
              refine .inl ⟨p_31, (encN fa_8 fb_9 fc_10 fd_11 fe_12 ff_13), rfl, (s44.l 1 rfl), (by first | (simp; done) | (simp; omega) | (subst_vars; exact encN_len) | (rw [List.length_set]; first | omega | (subst_vars; exact encN_len))), (by first | assumption | (subst_vars; exact ino_enc (by assumption))), fun p_45 dx_46 H47 r48 => ?_⟩
              have s49 : Hs [] H [(p_45, .ins A.c_Inode dx_46 [("kind", V.int (gi (encN fa_8 fb_9 fc_10 fd_11 fe_12 ff_13) 0)), ("links", V.int (valN (cutI (encN fa_8 fb_9 fc_10 fd_11 fe_12 ff_13) 1 3))), ("size", V.int (valN (cutI (encN fa_8 fb_9 fc_10 fd_11 fe_12 ff_13) 3 7))), ("height", V.int (gi (encN fa_8 fb_9 fc_10 fd_11 fe_12 ff_13) 7)), ("root", V.int (valN (cutI (encN fa_8 fb_9 fc_10 fd_11 fe_12 ff_13) 8 10))), ("parent", V.int (valN (cutI (encN fa_8 fb_9 fc_10 fd_11 fe_12 ff_13) 10 12)))]), (p_38, .lst (ws_39.map V.int)), (p_31, .lst ((encN fa_8 fb_9 fc_10 fd_11 fe_12 ff_13).map V.int)), (p_26, .lst ([V.int fa_8, V.int fb_9, V.int fc_10, V.int fd_11, V.int fe_12, V.int ff_13])), (p18, .ins A.c_Inode d19 [("kind", V.int fa_8), ("links", V.int fb_9), ("size", V.int fc_10), ("height", V.int fd_11), ("root", V.int fe_12), ("parent", V.int ff_13)]), (d19, .own p18), (p_7, .lst ([V.int fa_8, V.int fb_9, V.int fc_10, V.int fd_11, V.int fe_12, V.int ff_13])), (p5, .lst ([V.int 1, V.int 2, V.int 3, V.int 16])), (p3, .lst ([V.int 1, V.int 2, V.int 3, V.int 16]))] _ := s44.call0 r48
              refine k_set [some (V.ref a), some (V.ref p_7), some (V.ref p18), some (V.ref p_31), some (V.ref p_45), none, none, none, none] rfl ?_
              refine c_ifS ?_
              refine c_or ?_
              refine (vtest (visN (vv 4 rfl))) _ ?_
              refine c_ite (p := V.ref p_45 = V.non) (fun h51 => ?_) (fun h51 => ?_)
              · -- yes
                exfalso; walk_at "dead"
              · -- no
                refine c_or ?_
                refine c_test ?_
                refine c_op ?_
                refine c_callx ?_
                refine c_cons ?_
                refine (vv 4 rfl) _ ?_
                refine c_nil ?_
                refine ⟨p_45, dx_46, (gi (encN fa_8 fb_9 fc_10 fd_11 fe_12 ff_13) 0), (valN (cutI (encN fa_8 fb_9 fc_10 fd_11 fe_12 ff_13) 1 3)), (valN (cutI (encN fa_8 fb_9 fc_10 fd_11 fe_12 ff_13) 3 7)), (gi (encN fa_8 fb_9 fc_10 fd_11 fe_12 ff_13) 7), (valN (cutI (encN fa_8 fb_9 fc_10 fd_11 fe_12 ff_13) 8 10)), (valN (cutI (encN fa_8 fb_9 fc_10 fd_11 fe_12 ff_13) 10 12)), rfl, (s49.mem 0 rfl), fun p_53 H54 r55 => ?_⟩
                have s56 : Hs [] H [(p_53, .lst ([V.int (gi (encN fa_8 fb_9 fc_10 fd_11 fe_12 ff_13) 0), V.int (valN (cutI (encN fa_8 fb_9 fc_10 fd_11 fe_12 ff_13) 1 3)), V.int (valN (cutI (encN fa_8 fb_9 fc_10 fd_11 fe_12 ff_13) 3 7)), V.int (gi (encN fa_8 fb_9 fc_10 fd_11 fe_12 ff_13) 7), V.int (valN (cutI (encN fa_8 fb_9 fc_10 fd_11 fe_12 ff_13) 8 10)), V.int (valN (cutI (encN fa_8 fb_9 fc_10 fd_11 fe_12 ff_13) 10 12))])), (p_45, .ins A.c_Inode dx_46 [("kind", V.int (gi (encN fa_8 fb_9 fc_10 fd_11 fe_12 ff_13) 0)), ("links", V.int (valN (cutI (encN fa_8 fb_9 fc_10 fd_11 fe_12 ff_13) 1 3))), ("size", V.int (valN (cutI (encN fa_8 fb_9 fc_10 fd_11 fe_12 ff_13) 3 7))), ("height", V.int (gi (encN fa_8 fb_9 fc_10 fd_11 fe_12 ff_13) 7)), ("root", V.int (valN (cutI (encN fa_8 fb_9 fc_10 fd_11 fe_12 ff_13) 8 10))), ("parent", V.int (valN (cutI (encN fa_8 fb_9 fc_10 fd_11 fe_12 ff_13) 10 12)))]), (p_38, .lst (ws_39.map V.int)), (p_31, .lst ((encN fa_8 fb_9 fc_10 fd_11 fe_12 ff_13).map V.int)), (p_26, .lst ([V.int fa_8, V.int fb_9, V.int fc_10, V.int fd_11, V.int fe_12, V.int ff_13])), (p18, .ins A.c_Inode d19 [("kind", V.int fa_8), ("links", V.int fb_9), ("size", V.int fc_10), ("height", V.int fd_11), ("root", V.int fe_12), ("parent", V.int ff_13)]), (d19, .own p18), (p_7, .lst ([V.int fa_8, V.int fb_9, V.int fc_10, V.int fd_11, V.int fe_12, V.int ff_13])), (p5, .lst ([V.int 1, V.int 2, V.int 3, V.int 16])), (p3, .lst ([V.int 1, V.int 2, V.int 3, V.int 16]))] _ := s49.call0 r55
                refine (vv 1 rfl) _ ?_
                refine ⟨.list (([(gi (encN fa_8 fb_9 fc_10 fd_11 fe_12 ff_13) 0), (valN (cutI (encN fa_8 fb_9 fc_10 fd_11 fe_12 ff_13) 1 3)), (valN (cutI (encN fa_8 fb_9 fc_10 fd_11 fe_12 ff_13) 3 7)), (gi (encN fa_8 fb_9 fc_10 fd_11 fe_12 ff_13) 7), (valN (cutI (encN fa_8 fb_9 fc_10 fd_11 fe_12 ff_13) 8 10)), (valN (cutI (encN fa_8 fb_9 fc_10 fd_11 fe_12 ff_13) 10 12))]).map PyData.int), .list (([fa_8, fb_9, fc_10, fd_11, fe_12, ff_13]).map PyData.int), (.lst (s56.l 0 rfl) (dp_ints ([(gi (encN fa_8 fb_9 fc_10 fd_11 fe_12 ff_13) 0), (valN (cutI (encN fa_8 fb_9 fc_10 fd_11 fe_12 ff_13) 1 3)), (valN (cutI (encN fa_8 fb_9 fc_10 fd_11 fe_12 ff_13) 3 7)), (gi (encN fa_8 fb_9 fc_10 fd_11 fe_12 ff_13) 7), (valN (cutI (encN fa_8 fb_9 fc_10 fd_11 fe_12 ff_13) 8 10)), (valN (cutI (encN fa_8 fb_9 fc_10 fd_11 fe_12 ff_13) 10 12))]))), (.lst (s56.l 7 rfl) (dp_ints ([fa_8, fb_9, fc_10, fd_11, fe_12, ff_13]))), (by walk_at "shp"), (by walk_at "shp"), ?_⟩
                rw [eqvL_ints, dec_not]
                refine ⟨_, rfl, ?_⟩
                refine c_ite (p := ([(gi (encN fa_8 fb_9 fc_10 fd_11 fe_12 ff_13) 0), (valN (cutI (encN fa_8 fb_9 fc_10 fd_11 fe_12 ff_13) 1 3)), (valN (cutI (encN fa_8 fb_9 fc_10 fd_11 fe_12 ff_13) 3 7)), (gi (encN fa_8 fb_9 fc_10 fd_11 fe_12 ff_13) 7), (valN (cutI (encN fa_8 fb_9 fc_10 fd_11 fe_12 ff_13) 8 10)), (valN (cutI (encN fa_8 fb_9 fc_10 fd_11 fe_12 ff_13) 10 12))]) ≠ ([fa_8, fb_9, fc_10, fd_11, fe_12, ff_13])) (fun h52 => ?_) (fun h52 => ?_)
                · -- yes
                  refine iteT ?_
                  refine s_ret vc ?_
                  exfalso; first | exact absurd (dec_enc (by assumption)) (by assumption) | walk_at "dead"
                · -- no
                  refine c_not ?_
                  refine c_tB ?_
                  refine c_callx ?_
                  refine c_cons ?_
                  refine (vv 3 rfl) _ ?_
                  refine c_nil ?_
                  refine ⟨p_31, (encN fa_8 fb_9 fc_10 fd_11 fe_12 ff_13), rfl, (s56.l 3 rfl), (by first | (simp; done) | (simp; omega) | (subst_vars; exact encN_len) | (rw [List.length_set]; first | omega | (subst_vars; exact encN_len))), (by first | assumption | exact rep0_bd | (subst_vars; exact enc_bd (by assumption)) | exact set_bd (by first | assumption | (subst_vars; exact enc_bd (by assumption))) (by omega) (by omega)), fun H58 r59 => ?_⟩
                  have s60 : Hs [] H [(p_53, .lst ([V.int (gi (encN fa_8 fb_9 fc_10 fd_11 fe_12 ff_13) 0), V.int (valN (cutI (encN fa_8 fb_9 fc_10 fd_11 fe_12 ff_13) 1 3)), V.int (valN (cutI (encN fa_8 fb_9 fc_10 fd_11 fe_12 ff_13) 3 7)), V.int (gi (encN fa_8 fb_9 fc_10 fd_11 fe_12 ff_13) 7), V.int (valN (cutI (encN fa_8 fb_9 fc_10 fd_11 fe_12 ff_13) 8 10)), V.int (valN (cutI (encN fa_8 fb_9 fc_10 fd_11 fe_12 ff_13) 10 12))])), (p_45, .ins A.c_Inode dx_46 [("kind", V.int (gi (encN fa_8 fb_9 fc_10 fd_11 fe_12 ff_13) 0)), ("links", V.int (valN (cutI (encN fa_8 fb_9 fc_10 fd_11 fe_12 ff_13) 1 3))), ("size", V.int (valN (cutI (encN fa_8 fb_9 fc_10 fd_11 fe_12 ff_13) 3 7))), ("height", V.int (gi (encN fa_8 fb_9 fc_10 fd_11 fe_12 ff_13) 7)), ("root", V.int (valN (cutI (encN fa_8 fb_9 fc_10 fd_11 fe_12 ff_13) 8 10))), ("parent", V.int (valN (cutI (encN fa_8 fb_9 fc_10 fd_11 fe_12 ff_13) 10 12)))]), (p_38, .lst (ws_39.map V.int)), (p_31, .lst ((encN fa_8 fb_9 fc_10 fd_11 fe_12 ff_13).map V.int)), (p_26, .lst ([V.int fa_8, V.int fb_9, V.int fc_10, V.int fd_11, V.int fe_12, V.int ff_13])), (p18, .ins A.c_Inode d19 [("kind", V.int fa_8), ("links", V.int fb_9), ("size", V.int fc_10), ("height", V.int fd_11), ("root", V.int fe_12), ("parent", V.int ff_13)]), (d19, .own p18), (p_7, .lst ([V.int fa_8, V.int fb_9, V.int fc_10, V.int fd_11, V.int fe_12, V.int ff_13])), (p5, .lst ([V.int 1, V.int 2, V.int 3, V.int 16])), (p3, .lst ([V.int 1, V.int 2, V.int 3, V.int 16]))] _ := s56.call0 r59
                  refine ⟨_, rfl, ?_⟩
                  refine c_iteBn (fun h57 => ?_) (fun h57 => ?_)
                  · -- no
                    exfalso; walk_at "dead"
                  · -- yes
                    refine s_nxs ?_
                    refine s_appI (xs := (encN fa_8 fb_9 fc_10 fd_11 fe_12 ff_13)) (s60.mem 3 rfl) (vv 3 rfl) vc (by walk_at "side") ?_
                    have s61 : Hs [] H [(p_53, .lst ([V.int (gi (encN fa_8 fb_9 fc_10 fd_11 fe_12 ff_13) 0), V.int (valN (cutI (encN fa_8 fb_9 fc_10 fd_11 fe_12 ff_13) 1 3)), V.int (valN (cutI (encN fa_8 fb_9 fc_10 fd_11 fe_12 ff_13) 3 7)), V.int (gi (encN fa_8 fb_9 fc_10 fd_11 fe_12 ff_13) 7), V.int (valN (cutI (encN fa_8 fb_9 fc_10 fd_11 fe_12 ff_13) 8 10)), V.int (valN (cutI (encN fa_8 fb_9 fc_10 fd_11 fe_12 ff_13) 10 12))])), (p_45, .ins A.c_Inode dx_46 [("kind", V.int (gi (encN fa_8 fb_9 fc_10 fd_11 fe_12 ff_13) 0)), ("links", V.int (valN (cutI (encN fa_8 fb_9 fc_10 fd_11 fe_12 ff_13) 1 3))), ("size", V.int (valN (cutI (encN fa_8 fb_9 fc_10 fd_11 fe_12 ff_13) 3 7))), ("height", V.int (gi (encN fa_8 fb_9 fc_10 fd_11 fe_12 ff_13) 7)), ("root", V.int (valN (cutI (encN fa_8 fb_9 fc_10 fd_11 fe_12 ff_13) 8 10))), ("parent", V.int (valN (cutI (encN fa_8 fb_9 fc_10 fd_11 fe_12 ff_13) 10 12)))]), (p_38, .lst (ws_39.map V.int)), (p_31, .lst ((encN fa_8 fb_9 fc_10 fd_11 fe_12 ff_13 ++ ([1] : List Int)).map V.int)), (p_26, .lst ([V.int fa_8, V.int fb_9, V.int fc_10, V.int fd_11, V.int fe_12, V.int ff_13])), (p18, .ins A.c_Inode d19 [("kind", V.int fa_8), ("links", V.int fb_9), ("size", V.int fc_10), ("height", V.int fd_11), ("root", V.int fe_12), ("parent", V.int ff_13)]), (d19, .own p18), (p_7, .lst ([V.int fa_8, V.int fb_9, V.int fc_10, V.int fd_11, V.int fe_12, V.int ff_13])), (p5, .lst ([V.int 1, V.int 2, V.int 3, V.int 16])), (p3, .lst ([V.int 1, V.int 2, V.int 3, V.int 16]))] _ := s60.wr 3 (.lst ((encN fa_8 fb_9 fc_10 fd_11 fe_12 ff_13 ++ ([1] : List Int)).map V.int)) rfl
                    refine c_ifS ?_
                    refine c_or ?_
                    refine c_test ?_
                    refine c_op ?_
                    refine c_callx ?_
                    refine c_cons ?_
                    refine (vv 2 rfl) _ ?_
                    refine c_nil ?_
                    refine ⟨p18, d19, fa_8, fb_9, fc_10, fd_11, fe_12, ff_13, rfl, (s61.mem 5 rfl), fun p_64 H65 r66 => ?_⟩
                    have s67 : Hs [] H [(p_64, .lst ((encN fa_8 fb_9 fc_10 fd_11 fe_12 ff_13).map V.int)), (p_53, .lst ([V.int (gi (encN fa_8 fb_9 fc_10 fd_11 fe_12 ff_13) 0), V.int (valN (cutI (encN fa_8 fb_9 fc_10 fd_11 fe_12 ff_13) 1 3)), V.int (valN (cutI (encN fa_8 fb_9 fc_10 fd_11 fe_12 ff_13) 3 7)), V.int (gi (encN fa_8 fb_9 fc_10 fd_11 fe_12 ff_13) 7), V.int (valN (cutI (encN fa_8 fb_9 fc_10 fd_11 fe_12 ff_13) 8 10)), V.int (valN (cutI (encN fa_8 fb_9 fc_10 fd_11 fe_12 ff_13) 10 12))])), (p_45, .ins A.c_Inode dx_46 [("kind", V.int (gi (encN fa_8 fb_9 fc_10 fd_11 fe_12 ff_13) 0)), ("links", V.int (valN (cutI (encN fa_8 fb_9 fc_10 fd_11 fe_12 ff_13) 1 3))), ("size", V.int (valN (cutI (encN fa_8 fb_9 fc_10 fd_11 fe_12 ff_13) 3 7))), ("height", V.int (gi (encN fa_8 fb_9 fc_10 fd_11 fe_12 ff_13) 7)), ("root", V.int (valN (cutI (encN fa_8 fb_9 fc_10 fd_11 fe_12 ff_13) 8 10))), ("parent", V.int (valN (cutI (encN fa_8 fb_9 fc_10 fd_11 fe_12 ff_13) 10 12)))]), (p_38, .lst (ws_39.map V.int)), (p_31, .lst ((encN fa_8 fb_9 fc_10 fd_11 fe_12 ff_13 ++ ([1] : List Int)).map V.int)), (p_26, .lst ([V.int fa_8, V.int fb_9, V.int fc_10, V.int fd_11, V.int fe_12, V.int ff_13])), (p18, .ins A.c_Inode d19 [("kind", V.int fa_8), ("links", V.int fb_9), ("size", V.int fc_10), ("height", V.int fd_11), ("root", V.int fe_12), ("parent", V.int ff_13)]), (d19, .own p18), (p_7, .lst ([V.int fa_8, V.int fb_9, V.int fc_10, V.int fd_11, V.int fe_12, V.int ff_13])), (p5, .lst ([V.int 1, V.int 2, V.int 3, V.int 16])), (p3, .lst ([V.int 1, V.int 2, V.int 3, V.int 16]))] _ := s61.call0 r66
                    refine c_callx ?_
                    refine c_cons ?_
                    refine (vv 1 rfl) _ ?_
                    refine c_nil ?_
                    refine ⟨p_7, fa_8, fb_9, fc_10, fd_11, fe_12, ff_13, rfl, (s67.l 8 rfl), (by assumption), fun p_68 ws_69 H70 r71 f72 f73 => ?_⟩
                    have s74 : Hs [] H [(p_68, .lst (ws_69.map V.int)), (p_64, .lst ((encN fa_8 fb_9 fc_10 fd_11 fe_12 ff_13).map V.int)), (p_53, .lst ([V.int (gi (encN fa_8 fb_9 fc_10 fd_11 fe_12 ff_13) 0), V.int (valN (cutI (encN fa_8 fb_9 fc_10 fd_11 fe_12 ff_13) 1 3)), V.int (valN (cutI (encN fa_8 fb_9 fc_10 fd_11 fe_12 ff_13) 3 7)), V.int (gi (encN fa_8 fb_9 fc_10 fd_11 fe_12 ff_13) 7), V.int (valN (cutI (encN fa_8 fb_9 fc_10 fd_11 fe_12 ff_13) 8 10)), V.int (valN (cutI (encN fa_8 fb_9 fc_10 fd_11 fe_12 ff_13) 10 12))])), (p_45, .ins A.c_Inode dx_46 [("kind", V.int (gi (encN fa_8 fb_9 fc_10 fd_11 fe_12 ff_13) 0)), ("links", V.int (valN (cutI (encN fa_8 fb_9 fc_10 fd_11 fe_12 ff_13) 1 3))), ("size", V.int (valN (cutI (encN fa_8 fb_9 fc_10 fd_11 fe_12 ff_13) 3 7))), ("height", V.int (gi (encN fa_8 fb_9 fc_10 fd_11 fe_12 ff_13) 7)), ("root", V.int (valN (cutI (encN fa_8 fb_9 fc_10 fd_11 fe_12 ff_13) 8 10))), ("parent", V.int (valN (cutI (encN fa_8 fb_9 fc_10 fd_11 fe_12 ff_13) 10 12)))]), (p_38, .lst (ws_39.map V.int)), (p_31, .lst ((encN fa_8 fb_9 fc_10 fd_11 fe_12 ff_13 ++ ([1] : List Int)).map V.int)), (p_26, .lst ([V.int fa_8, V.int fb_9, V.int fc_10, V.int fd_11, V.int fe_12, V.int ff_13])), (p18, .ins A.c_Inode d19 [("kind", V.int fa_8), ("links", V.int fb_9), ("size", V.int fc_10), ("height", V.int fd_11), ("root", V.int fe_12), ("parent", V.int ff_13)]), (d19, .own p18), (p_7, .lst ([V.int fa_8, V.int fb_9, V.int fc_10, V.int fd_11, V.int fe_12, V.int ff_13])), (p5, .lst ([V.int 1, V.int 2, V.int 3, V.int 16])), (p3, .lst ([V.int 1, V.int 2, V.int 3, V.int 16]))] _ := s67.call0 r71
                    refine ⟨.list ((encN fa_8 fb_9 fc_10 fd_11 fe_12 ff_13).map PyData.int), .list (ws_69.map PyData.int), (.lst (s74.l 1 rfl) (dp_ints (encN fa_8 fb_9 fc_10 fd_11 fe_12 ff_13))), (.lst (s74.l 0 rfl) (dp_ints ws_69)), (by walk_at "shp"), (by walk_at "shp"), ?_⟩
                    rw [eqvL_ints, dec_not]
                    refine ⟨_, rfl, ?_⟩
                    refine c_ite (p := (encN fa_8 fb_9 fc_10 fd_11 fe_12 ff_13) ≠ ws_69) (fun h63 => ?_) (fun h63 => ?_)
                    · -- yes
                      refine iteT ?_
                      refine s_ret vc ?_
                      exfalso; first | exact absurd (dec_enc (by assumption)) (by assumption) | walk_at "dead"
                    · -- no
                      refine c_test ?_
                      refine c_op ?_
                      refine c_callx ?_
                      refine c_cons ?_
                      refine (vv 2 rfl) _ ?_
                      refine c_nil ?_
                      refine ⟨p18, d19, fa_8, fb_9, fc_10, fd_11, fe_12, ff_13, rfl, (s74.mem 7 rfl), fun p_76 H77 r78 => ?_⟩
                      have s79 : Hs [] H [(p_76, .lst ([V.int fa_8, V.int fb_9, V.int fc_10, V.int fd_11, V.int fe_12, V.int ff_13])), (p_68, .lst (ws_69.map V.int)), (p_64, .lst ((encN fa_8 fb_9 fc_10 fd_11 fe_12 ff_13).map V.int)), (p_53, .lst ([V.int (gi (encN fa_8 fb_9 fc_10 fd_11 fe_12 ff_13) 0), V.int (valN (cutI (encN fa_8 fb_9 fc_10 fd_11 fe_12 ff_13) 1 3)), V.int (valN (cutI (encN fa_8 fb_9 fc_10 fd_11 fe_12 ff_13) 3 7)), V.int (gi (encN fa_8 fb_9 fc_10 fd_11 fe_12 ff_13) 7), V.int (valN (cutI (encN fa_8 fb_9 fc_10 fd_11 fe_12 ff_13) 8 10)), V.int (valN (cutI (encN fa_8 fb_9 fc_10 fd_11 fe_12 ff_13) 10 12))])), (p_45, .ins A.c_Inode dx_46 [("kind", V.int (gi (encN fa_8 fb_9 fc_10 fd_11 fe_12 ff_13) 0)), ("links", V.int (valN (cutI (encN fa_8 fb_9 fc_10 fd_11 fe_12 ff_13) 1 3))), ("size", V.int (valN (cutI (encN fa_8 fb_9 fc_10 fd_11 fe_12 ff_13) 3 7))), ("height", V.int (gi (encN fa_8 fb_9 fc_10 fd_11 fe_12 ff_13) 7)), ("root", V.int (valN (cutI (encN fa_8 fb_9 fc_10 fd_11 fe_12 ff_13) 8 10))), ("parent", V.int (valN (cutI (encN fa_8 fb_9 fc_10 fd_11 fe_12 ff_13) 10 12)))]), (p_38, .lst (ws_39.map V.int)), (p_31, .lst ((encN fa_8 fb_9 fc_10 fd_11 fe_12 ff_13 ++ ([1] : List Int)).map V.int)), (p_26, .lst ([V.int fa_8, V.int fb_9, V.int fc_10, V.int fd_11, V.int fe_12, V.int ff_13])), (p18, .ins A.c_Inode d19 [("kind", V.int fa_8), ("links", V.int fb_9), ("size", V.int fc_10), ("height", V.int fd_11), ("root", V.int fe_12), ("parent", V.int ff_13)]), (d19, .own p18), (p_7, .lst ([V.int fa_8, V.int fb_9, V.int fc_10, V.int fd_11, V.int fe_12, V.int ff_13])), (p5, .lst ([V.int 1, V.int 2, V.int 3, V.int 16])), (p3, .lst ([V.int 1, V.int 2, V.int 3, V.int 16]))] _ := s74.call0 r78
                      refine (vv 1 rfl) _ ?_
                      refine ⟨.list (([fa_8, fb_9, fc_10, fd_11, fe_12, ff_13]).map PyData.int), .list (([fa_8, fb_9, fc_10, fd_11, fe_12, ff_13]).map PyData.int), (.lst (s79.l 0 rfl) (dp_ints ([fa_8, fb_9, fc_10, fd_11, fe_12, ff_13]))), (.lst (s79.l 10 rfl) (dp_ints ([fa_8, fb_9, fc_10, fd_11, fe_12, ff_13]))), (by walk_at "shp"), (by walk_at "shp"), ?_⟩
                      rw [show PyData.eqv (.list (([fa_8, fb_9, fc_10, fd_11, fe_12, ff_13]).map PyData.int)) (.list (([fa_8, fb_9, fc_10, fd_11, fe_12, ff_13]).map PyData.int)) = true from SeqAt.eqv_refl _ (SeqAt.canLay_of_shaped (by walk_at "shp"))]
                      refine ⟨_, rfl, ?_⟩
                      refine c_iteB (fun h75 => ?_) (fun h75 => ?_)
                      · -- yes
                        exfalso; walk_at "dead"
                      · -- no
                        refine s_nxs ?_
                        obtain ⟨n80, en80⟩ : ∃ n : Int, n = (rowG ns 6) := ⟨_, rfl⟩
                        have en800 : 0 ≤ n80 := by rw [en80]; exact rowG_nn _ _
                        refine s_set [some (V.ref a), some (V.ref p_7), some (V.ref p18), some (V.ref p_31), some (V.ref p_45), some (V.int n80), none, none, none] (vis (vcall (va (vv 0 rfl) (va vc va0)) (fun _ kC => ⟨a, ns, 6, rfl, (s79.sq hS), (by walk_at "side"), kC⟩)) (congrArg V.int en80.symm)) rfl ?_
                        refine c_set ?_
                        refine c_callx ?_
                        refine c_cons ?_
                        refine (vv 1 rfl) _ ?_
                        refine c_nil ?_
                        refine ⟨p_7, fa_8, fb_9, fc_10, fd_11, fe_12, ff_13, rfl, (s79.l 10 rfl), (by assumption), fun p_81 ws_82 H83 r84 f85 f86 => ?_⟩
                        have s87 : Hs [] H [(p_81, .lst (ws_82.map V.int)), (p_76, .lst ([V.int fa_8, V.int fb_9, V.int fc_10, V.int fd_11, V.int fe_12, V.int ff_13])), (p_68, .lst (ws_69.map V.int)), (p_64, .lst ((encN fa_8 fb_9 fc_10 fd_11 fe_12 ff_13).map V.int)), (p_53, .lst ([V.int (gi (encN fa_8 fb_9 fc_10 fd_11 fe_12 ff_13) 0), V.int (valN (cutI (encN fa_8 fb_9 fc_10 fd_11 fe_12 ff_13) 1 3)), V.int (valN (cutI (encN fa_8 fb_9 fc_10 fd_11 fe_12 ff_13) 3 7)), V.int (gi (encN fa_8 fb_9 fc_10 fd_11 fe_12 ff_13) 7), V.int (valN (cutI (encN fa_8 fb_9 fc_10 fd_11 fe_12 ff_13) 8 10)), V.int (valN (cutI (encN fa_8 fb_9 fc_10 fd_11 fe_12 ff_13) 10 12))])), (p_45, .ins A.c_Inode dx_46 [("kind", V.int (gi (encN fa_8 fb_9 fc_10 fd_11 fe_12 ff_13) 0)), ("links", V.int (valN (cutI (encN fa_8 fb_9 fc_10 fd_11 fe_12 ff_13) 1 3))), ("size", V.int (valN (cutI (encN fa_8 fb_9 fc_10 fd_11 fe_12 ff_13) 3 7))), ("height", V.int (gi (encN fa_8 fb_9 fc_10 fd_11 fe_12 ff_13) 7)), ("root", V.int (valN (cutI (encN fa_8 fb_9 fc_10 fd_11 fe_12 ff_13) 8 10))), ("parent", V.int (valN (cutI (encN fa_8 fb_9 fc_10 fd_11 fe_12 ff_13) 10 12)))]), (p_38, .lst (ws_39.map V.int)), (p_31, .lst ((encN fa_8 fb_9 fc_10 fd_11 fe_12 ff_13 ++ ([1] : List Int)).map V.int)), (p_26, .lst ([V.int fa_8, V.int fb_9, V.int fc_10, V.int fd_11, V.int fe_12, V.int ff_13])), (p18, .ins A.c_Inode d19 [("kind", V.int fa_8), ("links", V.int fb_9), ("size", V.int fc_10), ("height", V.int fd_11), ("root", V.int fe_12), ("parent", V.int ff_13)]), (d19, .own p18), (p_7, .lst ([V.int fa_8, V.int fb_9, V.int fc_10, V.int fd_11, V.int fe_12, V.int ff_13])), (p5, .lst ([V.int 1, V.int 2, V.int 3, V.int 16])), (p3, .lst ([V.int 1, V.int 2, V.int 3, V.int 16]))] _ := s79.call0 r84
                        refine k_set [some (V.ref a), some (V.ref p_7), some (V.ref p18), some (V.ref p_81), some (V.ref p_45), some (V.int n80), none, none, none] rfl ?_
                        obtain ⟨n88, en88⟩ : ∃ n : Int, n = (n80 % 16) := ⟨_, rfl⟩
                        have en880 : 0 ≤ n88 := by rw [en88]; exact Int.emod_nonneg _ (by walk_at "side")
                        have en881 : n88 < 16 := by rw [en88]; exact Int.emod_lt_of_pos _ (by walk_at "side")
                        refine s_set [some (V.ref a), some (V.ref p_7), some (V.ref p18), some (V.ref p_81), some (V.ref p_45), some (V.int n80), some (V.int n88), none, none] (vis (v1 (C := fun _ j => 0 < j) (g := fun i j => .int (i % j)) (by walk_at "side") (vint (vv 5 rfl)) vc) (congrArg V.int en88.symm)) rfl ?_
                        refine c_asg ?_
                        refine c_op ?_
                        refine c_lst ?_
                        refine c_cons ?_
                        refine vc _ ?_
                        refine c_cons ?_
                        refine vc _ ?_
                        refine c_cons ?_
                        refine vc _ ?_
                        refine c_cons ?_
                        refine vc _ ?_
                        refine c_cons ?_
                        refine vc _ ?_
                        refine c_cons ?_
                        refine vc _ ?_
                        refine c_cons ?_
                        obtain ⟨n89, en89⟩ : ∃ n : Int, n = ((n80 / 112) % 256) := ⟨_, rfl⟩
                        have en890 : 0 ≤ n89 := by rw [en89]; exact Int.emod_nonneg _ (by walk_at "side")
                        have en891 : n89 < 256 := by rw [en89]; exact Int.emod_lt_of_pos _ (by walk_at "side")
                        refine (vis (v1 (C := fun _ j => 0 < j) (g := fun i j => .int (i % j)) (by walk_at "side") (v1 (C := CDiv) (g := fun i j => .int (i / j)) ⟨by walk_at "side", by walk_at "side"⟩ (vint (vv 5 rfl)) vc) vc) (congrArg V.int en89.symm)) _ ?_
                        refine c_nil ?_
                        refine ⟨sz1 (by show 7 ≤ 1000000; decide), fun p90 np90 => ?_⟩
                        have s91 : Hs [] H [(p90, .lst ([V.int 0, V.int 1, V.int 2, V.int 3, V.int 4, V.int 255, V.int n89])), (p_81, .lst (ws_82.map V.int)), (p_76, .lst ([V.int fa_8, V.int fb_9, V.int fc_10, V.int fd_11, V.int fe_12, V.int ff_13])), (p_68, .lst (ws_69.map V.int)), (p_64, .lst ((encN fa_8 fb_9 fc_10 fd_11 fe_12 ff_13).map V.int)), (p_53, .lst ([V.int (gi (encN fa_8 fb_9 fc_10 fd_11 fe_12 ff_13) 0), V.int (valN (cutI (encN fa_8 fb_9 fc_10 fd_11 fe_12 ff_13) 1 3)), V.int (valN (cutI (encN fa_8 fb_9 fc_10 fd_11 fe_12 ff_13) 3 7)), V.int (gi (encN fa_8 fb_9 fc_10 fd_11 fe_12 ff_13) 7), V.int (valN (cutI (encN fa_8 fb_9 fc_10 fd_11 fe_12 ff_13) 8 10)), V.int (valN (cutI (encN fa_8 fb_9 fc_10 fd_11 fe_12 ff_13) 10 12))])), (p_45, .ins A.c_Inode dx_46 [("kind", V.int (gi (encN fa_8 fb_9 fc_10 fd_11 fe_12 ff_13) 0)), ("links", V.int (valN (cutI (encN fa_8 fb_9 fc_10 fd_11 fe_12 ff_13) 1 3))), ("size", V.int (valN (cutI (encN fa_8 fb_9 fc_10 fd_11 fe_12 ff_13) 3 7))), ("height", V.int (gi (encN fa_8 fb_9 fc_10 fd_11 fe_12 ff_13) 7)), ("root", V.int (valN (cutI (encN fa_8 fb_9 fc_10 fd_11 fe_12 ff_13) 8 10))), ("parent", V.int (valN (cutI (encN fa_8 fb_9 fc_10 fd_11 fe_12 ff_13) 10 12)))]), (p_38, .lst (ws_39.map V.int)), (p_31, .lst ((encN fa_8 fb_9 fc_10 fd_11 fe_12 ff_13 ++ ([1] : List Int)).map V.int)), (p_26, .lst ([V.int fa_8, V.int fb_9, V.int fc_10, V.int fd_11, V.int fe_12, V.int ff_13])), (p18, .ins A.c_Inode d19 [("kind", V.int fa_8), ("links", V.int fb_9), ("size", V.int fc_10), ("height", V.int fd_11), ("root", V.int fe_12), ("parent", V.int ff_13)]), (d19, .own p18), (p_7, .lst ([V.int fa_8, V.int fb_9, V.int fc_10, V.int fd_11, V.int fe_12, V.int ff_13])), (p5, .lst ([V.int 1, V.int 2, V.int 3, V.int 16])), (p3, .lst ([V.int 1, V.int 2, V.int 3, V.int 16]))] _ := s87.new np90 (.lst ([V.int 0, V.int 1, V.int 2, V.int 3, V.int 4, V.int 255, V.int n89]))
                        obtain ⟨n92, en92⟩ : ∃ n : Int, n = ((n80 / 16) % 7) := ⟨_, rfl⟩
                        have en920 : 0 ≤ n92 := by rw [en92]; exact Int.emod_nonneg _ (by walk_at "side")
                        have en921 : n92 < 7 := by rw [en92]; exact Int.emod_lt_of_pos _ (by walk_at "side")
                        refine (vis (v1 (C := fun _ j => 0 < j) (g := fun i j => .int (i % j)) (by walk_at "side") (v1 (C := CDiv) (g := fun i j => .int (i / j)) ⟨by walk_at "side", by walk_at "side"⟩ (vint (vv 5 rfl)) vc) vc) (congrArg V.int en92.symm)) _ ?_
                        refine ⟨_, (([0, 1, 2, 3, 4, 255, n89]).map V.int), _, _, rfl, rfl, (s91.l 0 rfl), (at_gi (by walk_at "side") (by walk_at "side")), ?_⟩
                        obtain ⟨n93, en93⟩ : ∃ n : Int, n = (gi ([0, 1, 2, 3, 4, 255, n89]) n92) := ⟨_, rfl⟩
                        have en930 : n93 = 0 ∨ n93 = 1 ∨ n93 = 2 ∨ n93 = 3 ∨ n93 = 4 ∨ n93 = 255 ∨ n93 = n89 := by
                          have h := gi_mem (ns := ([0, 1, 2, 3, 4, 255, n89])) (i := n92) (by walk_at "side") (by walk_at "side")
                          rw [← en93] at h
                          simpa only [List.mem_cons, List.not_mem_nil, or_false] using h
                        refine (vv 3 rfl) _ ((vv 6 rfl) _ ⟨_, _, _, n88.toNat, rfl, rfl, s91.mem 1 rfl, ix_nat (by walk_at "side") (by walk_at "side"), ?_⟩)
                        have s94 : Hs [] H [(p90, .lst ([V.int 0, V.int 1, V.int 2, V.int 3, V.int 4, V.int 255, V.int n89])), (p_81, .lst ((ws_82.map V.int).set n88.toNat (V.int (gi ([0, 1, 2, 3, 4, 255, n89]) n92)))), (p_76, .lst ([V.int fa_8, V.int fb_9, V.int fc_10, V.int fd_11, V.int fe_12, V.int ff_13])), (p_68, .lst (ws_69.map V.int)), (p_64, .lst ((encN fa_8 fb_9 fc_10 fd_11 fe_12 ff_13).map V.int)), (p_53, .lst ([V.int (gi (encN fa_8 fb_9 fc_10 fd_11 fe_12 ff_13) 0), V.int (valN (cutI (encN fa_8 fb_9 fc_10 fd_11 fe_12 ff_13) 1 3)), V.int (valN (cutI (encN fa_8 fb_9 fc_10 fd_11 fe_12 ff_13) 3 7)), V.int (gi (encN fa_8 fb_9 fc_10 fd_11 fe_12 ff_13) 7), V.int (valN (cutI (encN fa_8 fb_9 fc_10 fd_11 fe_12 ff_13) 8 10)), V.int (valN (cutI (encN fa_8 fb_9 fc_10 fd_11 fe_12 ff_13) 10 12))])), (p_45, .ins A.c_Inode dx_46 [("kind", V.int (gi (encN fa_8 fb_9 fc_10 fd_11 fe_12 ff_13) 0)), ("links", V.int (valN (cutI (encN fa_8 fb_9 fc_10 fd_11 fe_12 ff_13) 1 3))), ("size", V.int (valN (cutI (encN fa_8 fb_9 fc_10 fd_11 fe_12 ff_13) 3 7))), ("height", V.int (gi (encN fa_8 fb_9 fc_10 fd_11 fe_12 ff_13) 7)), ("root", V.int (valN (cutI (encN fa_8 fb_9 fc_10 fd_11 fe_12 ff_13) 8 10))), ("parent", V.int (valN (cutI (encN fa_8 fb_9 fc_10 fd_11 fe_12 ff_13) 10 12)))]), (p_38, .lst (ws_39.map V.int)), (p_31, .lst ((encN fa_8 fb_9 fc_10 fd_11 fe_12 ff_13 ++ ([1] : List Int)).map V.int)), (p_26, .lst ([V.int fa_8, V.int fb_9, V.int fc_10, V.int fd_11, V.int fe_12, V.int ff_13])), (p18, .ins A.c_Inode d19 [("kind", V.int fa_8), ("links", V.int fb_9), ("size", V.int fc_10), ("height", V.int fd_11), ("root", V.int fe_12), ("parent", V.int ff_13)]), (d19, .own p18), (p_7, .lst ([V.int fa_8, V.int fb_9, V.int fc_10, V.int fd_11, V.int fe_12, V.int ff_13])), (p5, .lst ([V.int 1, V.int 2, V.int 3, V.int 16])), (p3, .lst ([V.int 1, V.int 2, V.int 3, V.int 16]))] _ := s91.wr 1 (.lst ((ws_82.map V.int).set n88.toNat (V.int (gi ([0, 1, 2, 3, 4, 255, n89]) n92)))) rfl
                        have s95 : Hs [] H [(p90, .lst ([V.int 0, V.int 1, V.int 2, V.int 3, V.int 4, V.int 255, V.int n89])), (p_81, .lst ((ws_82.set n88.toNat (gi ([0, 1, 2, 3, 4, 255, n89]) n92)).map V.int)), (p_76, .lst ([V.int fa_8, V.int fb_9, V.int fc_10, V.int fd_11, V.int fe_12, V.int ff_13])), (p_68, .lst (ws_69.map V.int)), (p_64, .lst ((encN fa_8 fb_9 fc_10 fd_11 fe_12 ff_13).map V.int)), (p_53, .lst ([V.int (gi (encN fa_8 fb_9 fc_10 fd_11 fe_12 ff_13) 0), V.int (valN (cutI (encN fa_8 fb_9 fc_10 fd_11 fe_12 ff_13) 1 3)), V.int (valN (cutI (encN fa_8 fb_9 fc_10 fd_11 fe_12 ff_13) 3 7)), V.int (gi (encN fa_8 fb_9 fc_10 fd_11 fe_12 ff_13) 7), V.int (valN (cutI (encN fa_8 fb_9 fc_10 fd_11 fe_12 ff_13) 8 10)), V.int (valN (cutI (encN fa_8 fb_9 fc_10 fd_11 fe_12 ff_13) 10 12))])), (p_45, .ins A.c_Inode dx_46 [("kind", V.int (gi (encN fa_8 fb_9 fc_10 fd_11 fe_12 ff_13) 0)), ("links", V.int (valN (cutI (encN fa_8 fb_9 fc_10 fd_11 fe_12 ff_13) 1 3))), ("size", V.int (valN (cutI (encN fa_8 fb_9 fc_10 fd_11 fe_12 ff_13) 3 7))), ("height", V.int (gi (encN fa_8 fb_9 fc_10 fd_11 fe_12 ff_13) 7)), ("root", V.int (valN (cutI (encN fa_8 fb_9 fc_10 fd_11 fe_12 ff_13) 8 10))), ("parent", V.int (valN (cutI (encN fa_8 fb_9 fc_10 fd_11 fe_12 ff_13) 10 12)))]), (p_38, .lst (ws_39.map V.int)), (p_31, .lst ((encN fa_8 fb_9 fc_10 fd_11 fe_12 ff_13 ++ ([1] : List Int)).map V.int)), (p_26, .lst ([V.int fa_8, V.int fb_9, V.int fc_10, V.int fd_11, V.int fe_12, V.int ff_13])), (p18, .ins A.c_Inode d19 [("kind", V.int fa_8), ("links", V.int fb_9), ("size", V.int fc_10), ("height", V.int fd_11), ("root", V.int fe_12), ("parent", V.int ff_13)]), (d19, .own p18), (p_7, .lst ([V.int fa_8, V.int fb_9, V.int fc_10, V.int fd_11, V.int fe_12, V.int ff_13])), (p5, .lst ([V.int 1, V.int 2, V.int 3, V.int 16])), (p3, .lst ([V.int 1, V.int 2, V.int 3, V.int 16]))] _ := Hs.cg (by rw [map_seti]) s94
                        refine c_ifS ?_
                        refine c_not ?_
                        refine c_tB ?_
                        refine c_callx ?_
                        refine c_cons ?_
                        refine (vv 3 rfl) _ ?_
                        refine c_nil ?_
                        refine ⟨p_81, (ws_82.set n88.toNat (gi ([0, 1, 2, 3, 4, 255, n89]) n92)), rfl, (s95.l 1 rfl), (by first | (simp; done) | (simp; omega) | (subst_vars; exact encN_len) | (rw [List.length_set]; first | omega | (subst_vars; exact encN_len))), (by first | assumption | exact rep0_bd | (subst_vars; exact enc_bd (by assumption)) | exact set_bd (by first | assumption | (subst_vars; exact enc_bd (by assumption))) (by omega) (by omega)), fun H98 r99 => ?_⟩
                        have s100 : Hs [] H [(p90, .lst ([V.int 0, V.int 1, V.int 2, V.int 3, V.int 4, V.int 255, V.int n89])), (p_81, .lst ((ws_82.set n88.toNat (gi ([0, 1, 2, 3, 4, 255, n89]) n92)).map V.int)), (p_76, .lst ([V.int fa_8, V.int fb_9, V.int fc_10, V.int fd_11, V.int fe_12, V.int ff_13])), (p_68, .lst (ws_69.map V.int)), (p_64, .lst ((encN fa_8 fb_9 fc_10 fd_11 fe_12 ff_13).map V.int)), (p_53, .lst ([V.int (gi (encN fa_8 fb_9 fc_10 fd_11 fe_12 ff_13) 0), V.int (valN (cutI (encN fa_8 fb_9 fc_10 fd_11 fe_12 ff_13) 1 3)), V.int (valN (cutI (encN fa_8 fb_9 fc_10 fd_11 fe_12 ff_13) 3 7)), V.int (gi (encN fa_8 fb_9 fc_10 fd_11 fe_12 ff_13) 7), V.int (valN (cutI (encN fa_8 fb_9 fc_10 fd_11 fe_12 ff_13) 8 10)), V.int (valN (cutI (encN fa_8 fb_9 fc_10 fd_11 fe_12 ff_13) 10 12))])), (p_45, .ins A.c_Inode dx_46 [("kind", V.int (gi (encN fa_8 fb_9 fc_10 fd_11 fe_12 ff_13) 0)), ("links", V.int (valN (cutI (encN fa_8 fb_9 fc_10 fd_11 fe_12 ff_13) 1 3))), ("size", V.int (valN (cutI (encN fa_8 fb_9 fc_10 fd_11 fe_12 ff_13) 3 7))), ("height", V.int (gi (encN fa_8 fb_9 fc_10 fd_11 fe_12 ff_13) 7)), ("root", V.int (valN (cutI (encN fa_8 fb_9 fc_10 fd_11 fe_12 ff_13) 8 10))), ("parent", V.int (valN (cutI (encN fa_8 fb_9 fc_10 fd_11 fe_12 ff_13) 10 12)))]), (p_38, .lst (ws_39.map V.int)), (p_31, .lst ((encN fa_8 fb_9 fc_10 fd_11 fe_12 ff_13 ++ ([1] : List Int)).map V.int)), (p_26, .lst ([V.int fa_8, V.int fb_9, V.int fc_10, V.int fd_11, V.int fe_12, V.int ff_13])), (p18, .ins A.c_Inode d19 [("kind", V.int fa_8), ("links", V.int fb_9), ("size", V.int fc_10), ("height", V.int fd_11), ("root", V.int fe_12), ("parent", V.int ff_13)]), (d19, .own p18), (p_7, .lst ([V.int fa_8, V.int fb_9, V.int fc_10, V.int fd_11, V.int fe_12, V.int ff_13])), (p5, .lst ([V.int 1, V.int 2, V.int 3, V.int 16])), (p3, .lst ([V.int 1, V.int 2, V.int 3, V.int 16]))] _ := s95.call0 r99
                        refine ⟨_, rfl, ?_⟩
                        refine c_iteBn (fun h97 => ?_) (fun h97 => ?_)
                        · -- no
                          exfalso; walk_at "dead"
                        · -- yes
                          refine s_nxs ?_
                          obtain ⟨n101, en101⟩ : ∃ n : Int, n = (rowG ns 7) := ⟨_, rfl⟩
                          have en1010 : 0 ≤ n101 := by rw [en101]; exact rowG_nn _ _
                          refine s_set [some (V.ref a), some (V.ref p_7), some (V.ref p18), some (V.ref p_81), some (V.ref p_45), some (V.int n80), some (V.int n88), some (V.int n101), none] (vis (vint (vcall (va (vv 0 rfl) (va vc va0)) (fun _ kC => ⟨a, ns, 7, rfl, (s100.sq hS), (by walk_at "side"), kC⟩))) (congrArg V.int en101.symm)) rfl ?_
                          refine c_set ?_
                          refine c_lst ?_
                          refine c_nil ?_
                          refine ⟨sz1 (by show 0 ≤ 1000000; decide), fun p102 np102 => ?_⟩
                          have s103 : Hs [] H [(p102, .lst ([])), (p90, .lst ([V.int 0, V.int 1, V.int 2, V.int 3, V.int 4, V.int 255, V.int n89])), (p_81, .lst ((ws_82.set n88.toNat (gi ([0, 1, 2, 3, 4, 255, n89]) n92)).map V.int)), (p_76, .lst ([V.int fa_8, V.int fb_9, V.int fc_10, V.int fd_11, V.int fe_12, V.int ff_13])), (p_68, .lst (ws_69.map V.int)), (p_64, .lst ((encN fa_8 fb_9 fc_10 fd_11 fe_12 ff_13).map V.int)), (p_53, .lst ([V.int (gi (encN fa_8 fb_9 fc_10 fd_11 fe_12 ff_13) 0), V.int (valN (cutI (encN fa_8 fb_9 fc_10 fd_11 fe_12 ff_13) 1 3)), V.int (valN (cutI (encN fa_8 fb_9 fc_10 fd_11 fe_12 ff_13) 3 7)), V.int (gi (encN fa_8 fb_9 fc_10 fd_11 fe_12 ff_13) 7), V.int (valN (cutI (encN fa_8 fb_9 fc_10 fd_11 fe_12 ff_13) 8 10)), V.int (valN (cutI (encN fa_8 fb_9 fc_10 fd_11 fe_12 ff_13) 10 12))])), (p_45, .ins A.c_Inode dx_46 [("kind", V.int (gi (encN fa_8 fb_9 fc_10 fd_11 fe_12 ff_13) 0)), ("links", V.int (valN (cutI (encN fa_8 fb_9 fc_10 fd_11 fe_12 ff_13) 1 3))), ("size", V.int (valN (cutI (encN fa_8 fb_9 fc_10 fd_11 fe_12 ff_13) 3 7))), ("height", V.int (gi (encN fa_8 fb_9 fc_10 fd_11 fe_12 ff_13) 7)), ("root", V.int (valN (cutI (encN fa_8 fb_9 fc_10 fd_11 fe_12 ff_13) 8 10))), ("parent", V.int (valN (cutI (encN fa_8 fb_9 fc_10 fd_11 fe_12 ff_13) 10 12)))]), (p_38, .lst (ws_39.map V.int)), (p_31, .lst ((encN fa_8 fb_9 fc_10 fd_11 fe_12 ff_13 ++ ([1] : List Int)).map V.int)), (p_26, .lst ([V.int fa_8, V.int fb_9, V.int fc_10, V.int fd_11, V.int fe_12, V.int ff_13])), (p18, .ins A.c_Inode d19 [("kind", V.int fa_8), ("links", V.int fb_9), ("size", V.int fc_10), ("height", V.int fd_11), ("root", V.int fe_12), ("parent", V.int ff_13)]), (d19, .own p18), (p_7, .lst ([V.int fa_8, V.int fb_9, V.int fc_10, V.int fd_11, V.int fe_12, V.int ff_13])), (p5, .lst ([V.int 1, V.int 2, V.int 3, V.int 16])), (p3, .lst ([V.int 1, V.int 2, V.int 3, V.int 16]))] _ := s100.new np102 (.lst ([]))
                          refine k_set [some (V.ref a), some (V.ref p_7), some (V.ref p18), some (V.ref p102), some (V.ref p_45), some (V.int n80), some (V.int n88), some (V.int n101), none] rfl ?_
                          refine s_forR1 (va vc va0) ⟨by walk_at "side", by walk_at "side"⟩ (fun i104 σ' H' => ∃ (y__law_k : Option V) (ws : List Int) (nr : Int), σ' = [some (V.ref a), some (V.ref p_7), some (V.ref p18), some (V.ref p102), some (V.ref p_45), some (V.int n80), some (V.int n88), some (V.int nr), y__law_k] ∧ Hs [] H [(p102, .lst (ws.map V.int)), (p90, .lst ([V.int 0, V.int 1, V.int 2, V.int 3, V.int 4, V.int 255, V.int n89])), (p_81, .lst ((ws_82.set n88.toNat (gi ([0, 1, 2, 3, 4, 255, n89]) n92)).map V.int)), (p_76, .lst ([V.int fa_8, V.int fb_9, V.int fc_10, V.int fd_11, V.int fe_12, V.int ff_13])), (p_68, .lst (ws_69.map V.int)), (p_64, .lst ((encN fa_8 fb_9 fc_10 fd_11 fe_12 ff_13).map V.int)), (p_53, .lst ([V.int (gi (encN fa_8 fb_9 fc_10 fd_11 fe_12 ff_13) 0), V.int (valN (cutI (encN fa_8 fb_9 fc_10 fd_11 fe_12 ff_13) 1 3)), V.int (valN (cutI (encN fa_8 fb_9 fc_10 fd_11 fe_12 ff_13) 3 7)), V.int (gi (encN fa_8 fb_9 fc_10 fd_11 fe_12 ff_13) 7), V.int (valN (cutI (encN fa_8 fb_9 fc_10 fd_11 fe_12 ff_13) 8 10)), V.int (valN (cutI (encN fa_8 fb_9 fc_10 fd_11 fe_12 ff_13) 10 12))])), (p_45, .ins A.c_Inode dx_46 [("kind", V.int (gi (encN fa_8 fb_9 fc_10 fd_11 fe_12 ff_13) 0)), ("links", V.int (valN (cutI (encN fa_8 fb_9 fc_10 fd_11 fe_12 ff_13) 1 3))), ("size", V.int (valN (cutI (encN fa_8 fb_9 fc_10 fd_11 fe_12 ff_13) 3 7))), ("height", V.int (gi (encN fa_8 fb_9 fc_10 fd_11 fe_12 ff_13) 7)), ("root", V.int (valN (cutI (encN fa_8 fb_9 fc_10 fd_11 fe_12 ff_13) 8 10))), ("parent", V.int (valN (cutI (encN fa_8 fb_9 fc_10 fd_11 fe_12 ff_13) 10 12)))]), (p_38, .lst (ws_39.map V.int)), (p_31, .lst ((encN fa_8 fb_9 fc_10 fd_11 fe_12 ff_13 ++ ([1] : List Int)).map V.int)), (p_26, .lst ([V.int fa_8, V.int fb_9, V.int fc_10, V.int fd_11, V.int fe_12, V.int ff_13])), (p18, .ins A.c_Inode d19 [("kind", V.int fa_8), ("links", V.int fb_9), ("size", V.int fc_10), ("height", V.int fd_11), ("root", V.int fe_12), ("parent", V.int ff_13)]), (d19, .own p18), (p_7, .lst ([V.int fa_8, V.int fb_9, V.int fc_10, V.int fd_11, V.int fe_12, V.int ff_13])), (p5, .lst ([V.int 1, V.int 2, V.int 3, V.int 16])), (p3, .lst ([V.int 1, V.int 2, V.int 3, V.int 16]))] H' ∧ (ws.length = i104) ∧ (0 ≤ nr) ∧ (∀ o ∈ ws, 0 ≤ o ∧ o < 256)) ?_ ?_ ?_
                          · -- start
                            refine ⟨_, ([] : List Int), n101, rfl, s103.pick [0, 1, 2, 3, 4, 5, 6, 7, 8, 9, 10, 11, 12, 13, 14, 15] (by decide) (by walk_at "finL"), ?_, ?_, ?_⟩
                            · rfl
                            · omega
                            · intro o ho; cases ho
                          · intro i104 σ' H' h105 hP; obtain ⟨y__law_k, ws, nr, rfl, sI, hI0, hI1, hI2⟩ := hP
                            refine c_sig [some (V.ref a), some (V.ref p_7), some (V.ref p18), some (V.ref p102), some (V.ref p_45), some (V.int n80), some (V.int n88), some (V.int nr), some (V.int (i104 : Int))] rfl ?_
                            obtain ⟨n107, en107⟩ : ∃ n : Int, n = ((nr % 256) * (if ((i104 : Int) < 12) ∨ ((nr % 5) = 0) then 1 else 0)) := ⟨_, rfl⟩
                            refine s_appI (xs := ws) (sI.mem 0 rfl) (vv 3 rfl) (vis (v1 (C := CMul) (g := fun i j => .int (i * j)) (by walk_at "cmul2") (v1 (C := fun _ j => 0 < j) (g := fun i j => .int (i % j)) (by walk_at "side") (vv 7 rfl) vc) (vintP (vor (v0 (g := fun i j => .bl (decide (i < j))) (vv 8 rfl) vc) (fun hc => (veq (v1 (C := fun _ j => 0 < j) (g := fun i j => .int (i % j)) (by walk_at "side") (vv 7 rfl) vc) vc))))) (congrArg V.int en107.symm)) (by walk_at "side") ?_
                            have s108 : Hs [] H [(p102, .lst ((ws ++ [n107]).map V.int)), (p90, .lst ([V.int 0, V.int 1, V.int 2, V.int 3, V.int 4, V.int 255, V.int n89])), (p_81, .lst ((ws_82.set n88.toNat (gi ([0, 1, 2, 3, 4, 255, n89]) n92)).map V.int)), (p_76, .lst ([V.int fa_8, V.int fb_9, V.int fc_10, V.int fd_11, V.int fe_12, V.int ff_13])), (p_68, .lst (ws_69.map V.int)), (p_64, .lst ((encN fa_8 fb_9 fc_10 fd_11 fe_12 ff_13).map V.int)), (p_53, .lst ([V.int (gi (encN fa_8 fb_9 fc_10 fd_11 fe_12 ff_13) 0), V.int (valN (cutI (encN fa_8 fb_9 fc_10 fd_11 fe_12 ff_13) 1 3)), V.int (valN (cutI (encN fa_8 fb_9 fc_10 fd_11 fe_12 ff_13) 3 7)), V.int (gi (encN fa_8 fb_9 fc_10 fd_11 fe_12 ff_13) 7), V.int (valN (cutI (encN fa_8 fb_9 fc_10 fd_11 fe_12 ff_13) 8 10)), V.int (valN (cutI (encN fa_8 fb_9 fc_10 fd_11 fe_12 ff_13) 10 12))])), (p_45, .ins A.c_Inode dx_46 [("kind", V.int (gi (encN fa_8 fb_9 fc_10 fd_11 fe_12 ff_13) 0)), ("links", V.int (valN (cutI (encN fa_8 fb_9 fc_10 fd_11 fe_12 ff_13) 1 3))), ("size", V.int (valN (cutI (encN fa_8 fb_9 fc_10 fd_11 fe_12 ff_13) 3 7))), ("height", V.int (gi (encN fa_8 fb_9 fc_10 fd_11 fe_12 ff_13) 7)), ("root", V.int (valN (cutI (encN fa_8 fb_9 fc_10 fd_11 fe_12 ff_13) 8 10))), ("parent", V.int (valN (cutI (encN fa_8 fb_9 fc_10 fd_11 fe_12 ff_13) 10 12)))]), (p_38, .lst (ws_39.map V.int)), (p_31, .lst ((encN fa_8 fb_9 fc_10 fd_11 fe_12 ff_13 ++ ([1] : List Int)).map V.int)), (p_26, .lst ([V.int fa_8, V.int fb_9, V.int fc_10, V.int fd_11, V.int fe_12, V.int ff_13])), (p18, .ins A.c_Inode d19 [("kind", V.int fa_8), ("links", V.int fb_9), ("size", V.int fc_10), ("height", V.int fd_11), ("root", V.int fe_12), ("parent", V.int ff_13)]), (d19, .own p18), (p_7, .lst ([V.int fa_8, V.int fb_9, V.int fc_10, V.int fd_11, V.int fe_12, V.int ff_13])), (p5, .lst ([V.int 1, V.int 2, V.int 3, V.int 16])), (p3, .lst ([V.int 1, V.int 2, V.int 3, V.int 16]))] _ := sI.wr 0 (.lst ((ws ++ [n107]).map V.int)) rfl
                            obtain ⟨n109, en109⟩ : ∃ n : Int, n = (nr / 3) := ⟨_, rfl⟩
                            refine s_set [some (V.ref a), some (V.ref p_7), some (V.ref p18), some (V.ref p102), some (V.ref p_45), some (V.int n80), some (V.int n88), some (V.int n109), some (V.int (i104 : Int))] (vis (v1 (C := CDiv) (g := fun i j => .int (i / j)) ⟨by walk_at "side", by walk_at "side"⟩ (vv 7 rfl) vc) (congrArg V.int en109.symm)) rfl ?_
                            refine s_nx ?_
                            refine ⟨_, ws ++ [n107], n109, rfl, s108.pick [0, 1, 2, 3, 4, 5, 6, 7, 8, 9, 10, 11, 12, 13, 14, 15] (by decide) (by walk_at "finL"), ?_, ?_, ?_⟩
                            · rw [List.length_append]; simp; omega
                            · subst_vars; omega
                            · exact app_bd (by assumption) (by first | (split at * <;> omega) | omega) (by first | (split at * <;> omega) | omega)
                          · intro σ' H' hP; obtain ⟨y__law_k, ws, nr, rfl, sI, hI0, hI1, hI2⟩ := hP
                            obtain ⟨n110, en110⟩ : ∃ n : Int, n = (nr % 5) := ⟨_, rfl⟩
                            have en1100 : 0 ≤ n110 := by rw [en110]; exact Int.emod_nonneg _ (by walk_at "side")
                            have en1101 : n110 < 5 := by rw [en110]; exact Int.emod_lt_of_pos _ (by walk_at "side")
                            refine s_setI (xs := ws) (sI.mem 0 rfl) (vis (v1 (C := fun _ j => 0 < j) (g := fun i j => .int (i % j)) (by walk_at "side") (vv 7 rfl) vc) (congrArg V.int en110.symm)) (vv 3 rfl) vc (by walk_at "side") (by walk_at "side") ?_
                            have s111 : Hs [] H [(p102, .lst ((ws.set (0 : Int).toNat n110).map V.int)), (p90, .lst ([V.int 0, V.int 1, V.int 2, V.int 3, V.int 4, V.int 255, V.int n89])), (p_81, .lst ((ws_82.set n88.toNat (gi ([0, 1, 2, 3, 4, 255, n89]) n92)).map V.int)), (p_76, .lst ([V.int fa_8, V.int fb_9, V.int fc_10, V.int fd_11, V.int fe_12, V.int ff_13])), (p_68, .lst (ws_69.map V.int)), (p_64, .lst ((encN fa_8 fb_9 fc_10 fd_11 fe_12 ff_13).map V.int)), (p_53, .lst ([V.int (gi (encN fa_8 fb_9 fc_10 fd_11 fe_12 ff_13) 0), V.int (valN (cutI (encN fa_8 fb_9 fc_10 fd_11 fe_12 ff_13) 1 3)), V.int (valN (cutI (encN fa_8 fb_9 fc_10 fd_11 fe_12 ff_13) 3 7)), V.int (gi (encN fa_8 fb_9 fc_10 fd_11 fe_12 ff_13) 7), V.int (valN (cutI (encN fa_8 fb_9 fc_10 fd_11 fe_12 ff_13) 8 10)), V.int (valN (cutI (encN fa_8 fb_9 fc_10 fd_11 fe_12 ff_13) 10 12))])), (p_45, .ins A.c_Inode dx_46 [("kind", V.int (gi (encN fa_8 fb_9 fc_10 fd_11 fe_12 ff_13) 0)), ("links", V.int (valN (cutI (encN fa_8 fb_9 fc_10 fd_11 fe_12 ff_13) 1 3))), ("size", V.int (valN (cutI (encN fa_8 fb_9 fc_10 fd_11 fe_12 ff_13) 3 7))), ("height", V.int (gi (encN fa_8 fb_9 fc_10 fd_11 fe_12 ff_13) 7)), ("root", V.int (valN (cutI (encN fa_8 fb_9 fc_10 fd_11 fe_12 ff_13) 8 10))), ("parent", V.int (valN (cutI (encN fa_8 fb_9 fc_10 fd_11 fe_12 ff_13) 10 12)))]), (p_38, .lst (ws_39.map V.int)), (p_31, .lst ((encN fa_8 fb_9 fc_10 fd_11 fe_12 ff_13 ++ ([1] : List Int)).map V.int)), (p_26, .lst ([V.int fa_8, V.int fb_9, V.int fc_10, V.int fd_11, V.int fe_12, V.int ff_13])), (p18, .ins A.c_Inode d19 [("kind", V.int fa_8), ("links", V.int fb_9), ("size", V.int fc_10), ("height", V.int fd_11), ("root", V.int fe_12), ("parent", V.int ff_13)]), (d19, .own p18), (p_7, .lst ([V.int fa_8, V.int fb_9, V.int fc_10, V.int fd_11, V.int fe_12, V.int ff_13])), (p5, .lst ([V.int 1, V.int 2, V.int 3, V.int 16])), (p3, .lst ([V.int 1, V.int 2, V.int 3, V.int 16]))] _ := sI.wr 0 (.lst ((ws.set (0 : Int).toNat n110).map V.int)) rfl
                            refine c_ifS ?_
                            refine c_or ?_
                            refine c_not ?_
                            refine c_tB ?_
                            refine c_callx ?_
                            refine c_cons ?_
                            refine (vv 3 rfl) _ ?_
                            refine c_nil ?_
                            refine ⟨p102, (ws.set (0 : Int).toNat n110), rfl, (s111.l 0 rfl), (by first | (simp; done) | (simp; omega) | (subst_vars; exact encN_len) | (rw [List.length_set]; first | omega | (subst_vars; exact encN_len))), (by first | assumption | exact rep0_bd | (subst_vars; exact enc_bd (by assumption)) | exact set_bd (by first | assumption | (subst_vars; exact enc_bd (by assumption))) (by omega) (by omega)), fun H114 r115 => ?_⟩
                            have s116 : Hs [] H [(p102, .lst ((ws.set (0 : Int).toNat n110).map V.int)), (p90, .lst ([V.int 0, V.int 1, V.int 2, V.int 3, V.int 4, V.int 255, V.int n89])), (p_81, .lst ((ws_82.set n88.toNat (gi ([0, 1, 2, 3, 4, 255, n89]) n92)).map V.int)), (p_76, .lst ([V.int fa_8, V.int fb_9, V.int fc_10, V.int fd_11, V.int fe_12, V.int ff_13])), (p_68, .lst (ws_69.map V.int)), (p_64, .lst ((encN fa_8 fb_9 fc_10 fd_11 fe_12 ff_13).map V.int)), (p_53, .lst ([V.int (gi (encN fa_8 fb_9 fc_10 fd_11 fe_12 ff_13) 0), V.int (valN (cutI (encN fa_8 fb_9 fc_10 fd_11 fe_12 ff_13) 1 3)), V.int (valN (cutI (encN fa_8 fb_9 fc_10 fd_11 fe_12 ff_13) 3 7)), V.int (gi (encN fa_8 fb_9 fc_10 fd_11 fe_12 ff_13) 7), V.int (valN (cutI (encN fa_8 fb_9 fc_10 fd_11 fe_12 ff_13) 8 10)), V.int (valN (cutI (encN fa_8 fb_9 fc_10 fd_11 fe_12 ff_13) 10 12))])), (p_45, .ins A.c_Inode dx_46 [("kind", V.int (gi (encN fa_8 fb_9 fc_10 fd_11 fe_12 ff_13) 0)), ("links", V.int (valN (cutI (encN fa_8 fb_9 fc_10 fd_11 fe_12 ff_13) 1 3))), ("size", V.int (valN (cutI (encN fa_8 fb_9 fc_10 fd_11 fe_12 ff_13) 3 7))), ("height", V.int (gi (encN fa_8 fb_9 fc_10 fd_11 fe_12 ff_13) 7)), ("root", V.int (valN (cutI (encN fa_8 fb_9 fc_10 fd_11 fe_12 ff_13) 8 10))), ("parent", V.int (valN (cutI (encN fa_8 fb_9 fc_10 fd_11 fe_12 ff_13) 10 12)))]), (p_38, .lst (ws_39.map V.int)), (p_31, .lst ((encN fa_8 fb_9 fc_10 fd_11 fe_12 ff_13 ++ ([1] : List Int)).map V.int)), (p_26, .lst ([V.int fa_8, V.int fb_9, V.int fc_10, V.int fd_11, V.int fe_12, V.int ff_13])), (p18, .ins A.c_Inode d19 [("kind", V.int fa_8), ("links", V.int fb_9), ("size", V.int fc_10), ("height", V.int fd_11), ("root", V.int fe_12), ("parent", V.int ff_13)]), (d19, .own p18), (p_7, .lst ([V.int fa_8, V.int fb_9, V.int fc_10, V.int fd_11, V.int fe_12, V.int ff_13])), (p5, .lst ([V.int 1, V.int 2, V.int 3, V.int 16])), (p3, .lst ([V.int 1, V.int 2, V.int 3, V.int 16]))] _ := s111.call0 r115
                            refine ⟨_, rfl, ?_⟩
                            refine c_iteBn (fun h113 => ?_) (fun h113 => ?_)
                            · -- no
                              exfalso; walk_at "dead"
                            · -- yes
                              refine c_not ?_
                              refine c_tB ?_
                              refine c_callx ?_
                              refine c_cons ?_
                              refine c_op ?_
                              refine c_lst ?_
                              refine c_cons ?_
                              refine vc _ ?_
                              refine c_nil ?_
                              refine ⟨sz1 (by show 1 ≤ 1000000; decide), fun p118 np118 => ?_⟩
                              have s119 : Hs [] H [(p118, .lst ([V.int 0])), (p102, .lst ((ws.set (0 : Int).toNat n110).map V.int)), (p90, .lst ([V.int 0, V.int 1, V.int 2, V.int 3, V.int 4, V.int 255, V.int n89])), (p_81, .lst ((ws_82.set n88.toNat (gi ([0, 1, 2, 3, 4, 255, n89]) n92)).map V.int)), (p_76, .lst ([V.int fa_8, V.int fb_9, V.int fc_10, V.int fd_11, V.int fe_12, V.int ff_13])), (p_68, .lst (ws_69.map V.int)), (p_64, .lst ((encN fa_8 fb_9 fc_10 fd_11 fe_12 ff_13).map V.int)), (p_53, .lst ([V.int (gi (encN fa_8 fb_9 fc_10 fd_11 fe_12 ff_13) 0), V.int (valN (cutI (encN fa_8 fb_9 fc_10 fd_11 fe_12 ff_13) 1 3)), V.int (valN (cutI (encN fa_8 fb_9 fc_10 fd_11 fe_12 ff_13) 3 7)), V.int (gi (encN fa_8 fb_9 fc_10 fd_11 fe_12 ff_13) 7), V.int (valN (cutI (encN fa_8 fb_9 fc_10 fd_11 fe_12 ff_13) 8 10)), V.int (valN (cutI (encN fa_8 fb_9 fc_10 fd_11 fe_12 ff_13) 10 12))])), (p_45, .ins A.c_Inode dx_46 [("kind", V.int (gi (encN fa_8 fb_9 fc_10 fd_11 fe_12 ff_13) 0)), ("links", V.int (valN (cutI (encN fa_8 fb_9 fc_10 fd_11 fe_12 ff_13) 1 3))), ("size", V.int (valN (cutI (encN fa_8 fb_9 fc_10 fd_11 fe_12 ff_13) 3 7))), ("height", V.int (gi (encN fa_8 fb_9 fc_10 fd_11 fe_12 ff_13) 7)), ("root", V.int (valN (cutI (encN fa_8 fb_9 fc_10 fd_11 fe_12 ff_13) 8 10))), ("parent", V.int (valN (cutI (encN fa_8 fb_9 fc_10 fd_11 fe_12 ff_13) 10 12)))]), (p_38, .lst (ws_39.map V.int)), (p_31, .lst ((encN fa_8 fb_9 fc_10 fd_11 fe_12 ff_13 ++ ([1] : List Int)).map V.int)), (p_26, .lst ([V.int fa_8, V.int fb_9, V.int fc_10, V.int fd_11, V.int fe_12, V.int ff_13])), (p18, .ins A.c_Inode d19 [("kind", V.int fa_8), ("links", V.int fb_9), ("size", V.int fc_10), ("height", V.int fd_11), ("root", V.int fe_12), ("parent", V.int ff_13)]), (d19, .own p18), (p_7, .lst ([V.int fa_8, V.int fb_9, V.int fc_10, V.int fd_11, V.int fe_12, V.int ff_13])), (p5, .lst ([V.int 1, V.int 2, V.int 3, V.int 16])), (p3, .lst ([V.int 1, V.int 2, V.int 3, V.int 16]))] _ := s116.new np118 (.lst ([V.int 0]))
                              refine vc _ ?_
                              refine ⟨_, _, _, rfl, rfl, s119.mem 0 rfl, by walk_at "side", by walk_at "side", sz1 (by walk_at "side"), fun p120 np120 => ?_⟩
                              have s121 : Hs [] H [(p120, .lst ((List.replicate (16 : Int).toNat 0).map V.int)), (p118, .lst ([V.int 0])), (p102, .lst ((ws.set (0 : Int).toNat n110).map V.int)), (p90, .lst ([V.int 0, V.int 1, V.int 2, V.int 3, V.int 4, V.int 255, V.int n89])), (p_81, .lst ((ws_82.set n88.toNat (gi ([0, 1, 2, 3, 4, 255, n89]) n92)).map V.int)), (p_76, .lst ([V.int fa_8, V.int fb_9, V.int fc_10, V.int fd_11, V.int fe_12, V.int ff_13])), (p_68, .lst (ws_69.map V.int)), (p_64, .lst ((encN fa_8 fb_9 fc_10 fd_11 fe_12 ff_13).map V.int)), (p_53, .lst ([V.int (gi (encN fa_8 fb_9 fc_10 fd_11 fe_12 ff_13) 0), V.int (valN (cutI (encN fa_8 fb_9 fc_10 fd_11 fe_12 ff_13) 1 3)), V.int (valN (cutI (encN fa_8 fb_9 fc_10 fd_11 fe_12 ff_13) 3 7)), V.int (gi (encN fa_8 fb_9 fc_10 fd_11 fe_12 ff_13) 7), V.int (valN (cutI (encN fa_8 fb_9 fc_10 fd_11 fe_12 ff_13) 8 10)), V.int (valN (cutI (encN fa_8 fb_9 fc_10 fd_11 fe_12 ff_13) 10 12))])), (p_45, .ins A.c_Inode dx_46 [("kind", V.int (gi (encN fa_8 fb_9 fc_10 fd_11 fe_12 ff_13) 0)), ("links", V.int (valN (cutI (encN fa_8 fb_9 fc_10 fd_11 fe_12 ff_13) 1 3))), ("size", V.int (valN (cutI (encN fa_8 fb_9 fc_10 fd_11 fe_12 ff_13) 3 7))), ("height", V.int (gi (encN fa_8 fb_9 fc_10 fd_11 fe_12 ff_13) 7)), ("root", V.int (valN (cutI (encN fa_8 fb_9 fc_10 fd_11 fe_12 ff_13) 8 10))), ("parent", V.int (valN (cutI (encN fa_8 fb_9 fc_10 fd_11 fe_12 ff_13) 10 12)))]), (p_38, .lst (ws_39.map V.int)), (p_31, .lst ((encN fa_8 fb_9 fc_10 fd_11 fe_12 ff_13 ++ ([1] : List Int)).map V.int)), (p_26, .lst ([V.int fa_8, V.int fb_9, V.int fc_10, V.int fd_11, V.int fe_12, V.int ff_13])), (p18, .ins A.c_Inode d19 [("kind", V.int fa_8), ("links", V.int fb_9), ("size", V.int fc_10), ("height", V.int fd_11), ("root", V.int fe_12), ("parent", V.int ff_13)]), (d19, .own p18), (p_7, .lst ([V.int fa_8, V.int fb_9, V.int fc_10, V.int fd_11, V.int fe_12, V.int ff_13])), (p5, .lst ([V.int 1, V.int 2, V.int 3, V.int 16])), (p3, .lst ([V.int 1, V.int 2, V.int 3, V.int 16]))] _ := (s119.new np120 (.lst ((List.replicate (16 : Int).toNat [V.int 0]).flatten))).top (congrArg HO.lst ((rep_one _ _).trans (List.map_replicate ..).symm))
                              refine c_nil ?_
                              refine ⟨p120, (List.replicate (16 : Int).toNat 0), rfl, (s121.l 0 rfl), (by first | (simp; done) | (simp; omega) | (subst_vars; exact encN_len) | (rw [List.length_set]; first | omega | (subst_vars; exact encN_len))), (by first | assumption | exact rep0_bd | (subst_vars; exact enc_bd (by assumption)) | exact set_bd (by first | assumption | (subst_vars; exact enc_bd (by assumption))) (by omega) (by omega)), fun H122 r123 => ?_⟩
                              have s124 : Hs [] H [(p120, .lst ((List.replicate (16 : Int).toNat 0).map V.int)), (p118, .lst ([V.int 0])), (p102, .lst ((ws.set (0 : Int).toNat n110).map V.int)), (p90, .lst ([V.int 0, V.int 1, V.int 2, V.int 3, V.int 4, V.int 255, V.int n89])), (p_81, .lst ((ws_82.set n88.toNat (gi ([0, 1, 2, 3, 4, 255, n89]) n92)).map V.int)), (p_76, .lst ([V.int fa_8, V.int fb_9, V.int fc_10, V.int fd_11, V.int fe_12, V.int ff_13])), (p_68, .lst (ws_69.map V.int)), (p_64, .lst ((encN fa_8 fb_9 fc_10 fd_11 fe_12 ff_13).map V.int)), (p_53, .lst ([V.int (gi (encN fa_8 fb_9 fc_10 fd_11 fe_12 ff_13) 0), V.int (valN (cutI (encN fa_8 fb_9 fc_10 fd_11 fe_12 ff_13) 1 3)), V.int (valN (cutI (encN fa_8 fb_9 fc_10 fd_11 fe_12 ff_13) 3 7)), V.int (gi (encN fa_8 fb_9 fc_10 fd_11 fe_12 ff_13) 7), V.int (valN (cutI (encN fa_8 fb_9 fc_10 fd_11 fe_12 ff_13) 8 10)), V.int (valN (cutI (encN fa_8 fb_9 fc_10 fd_11 fe_12 ff_13) 10 12))])), (p_45, .ins A.c_Inode dx_46 [("kind", V.int (gi (encN fa_8 fb_9 fc_10 fd_11 fe_12 ff_13) 0)), ("links", V.int (valN (cutI (encN fa_8 fb_9 fc_10 fd_11 fe_12 ff_13) 1 3))), ("size", V.int (valN (cutI (encN fa_8 fb_9 fc_10 fd_11 fe_12 ff_13) 3 7))), ("height", V.int (gi (encN fa_8 fb_9 fc_10 fd_11 fe_12 ff_13) 7)), ("root", V.int (valN (cutI (encN fa_8 fb_9 fc_10 fd_11 fe_12 ff_13) 8 10))), ("parent", V.int (valN (cutI (encN fa_8 fb_9 fc_10 fd_11 fe_12 ff_13) 10 12)))]), (p_38, .lst (ws_39.map V.int)), (p_31, .lst ((encN fa_8 fb_9 fc_10 fd_11 fe_12 ff_13 ++ ([1] : List Int)).map V.int)), (p_26, .lst ([V.int fa_8, V.int fb_9, V.int fc_10, V.int fd_11, V.int fe_12, V.int ff_13])), (p18, .ins A.c_Inode d19 [("kind", V.int fa_8), ("links", V.int fb_9), ("size", V.int fc_10), ("height", V.int fd_11), ("root", V.int fe_12), ("parent", V.int ff_13)]), (d19, .own p18), (p_7, .lst ([V.int fa_8, V.int fb_9, V.int fc_10, V.int fd_11, V.int fe_12, V.int ff_13])), (p5, .lst ([V.int 1, V.int 2, V.int 3, V.int 16])), (p3, .lst ([V.int 1, V.int 2, V.int 3, V.int 16]))] _ := s121.call0 r123
                              refine ⟨_, rfl, ?_⟩
                              refine c_iteBn (fun h117 => ?_) (fun h117 => ?_)
                              · -- no
                                exfalso; walk_at "dead"
                              · -- yes
                                refine s_nxs ?_
                                refine c_ret ?_
                                refine c_andW (p := ([1, 1, 0, 0, 0, 0]) = ([1, 1, 0, 0, 0, 0] : List Int)) (q := ([3, 1, 0, 0, 0, 9]) = ([3, 1, 0, 0, 0, 9] : List Int)) s124 (fun Q' kQ => ?_) (fun H126 s127 h125 Q' kQ => ?_) (fun H128 s129 => ?_)
                                · -- the first part
                                  refine c_op ?_
                                  refine c_callx ?_
                                  refine c_cons ?_
                                  refine c_make ?_
                                  refine c_cons ?_
                                  refine vc _ ?_
                                  refine c_nil ?_
                                  intro p130 d131 np130 nd131 nep130
                                  have s132 := (s124.new nd131 (.own p130)).new (upd_none np130 nep130) (.ins A.c_Inode d131 [])
                                  refine ⟨p130, d131, 1, 1, 0, 0, 0, 0, rfl, (s132.mem 0 rfl), fun H133 r134 => ?_⟩
                                  have s135 : Hs [] H [(p130, .ins A.c_Inode d131 [("kind", V.int 1), ("links", V.int 1), ("size", V.int 0), ("height", V.int 0), ("root", V.int 0), ("parent", V.int 0)]), (d131, .own p130), (p120, .lst ((List.replicate (16 : Int).toNat 0).map V.int)), (p118, .lst ([V.int 0])), (p102, .lst ((ws.set (0 : Int).toNat n110).map V.int)), (p90, .lst ([V.int 0, V.int 1, V.int 2, V.int 3, V.int 4, V.int 255, V.int n89])), (p_81, .lst ((ws_82.set n88.toNat (gi ([0, 1, 2, 3, 4, 255, n89]) n92)).map V.int)), (p_76, .lst ([V.int fa_8, V.int fb_9, V.int fc_10, V.int fd_11, V.int fe_12, V.int ff_13])), (p_68, .lst (ws_69.map V.int)), (p_64, .lst ((encN fa_8 fb_9 fc_10 fd_11 fe_12 ff_13).map V.int)), (p_53, .lst ([V.int (gi (encN fa_8 fb_9 fc_10 fd_11 fe_12 ff_13) 0), V.int (valN (cutI (encN fa_8 fb_9 fc_10 fd_11 fe_12 ff_13) 1 3)), V.int (valN (cutI (encN fa_8 fb_9 fc_10 fd_11 fe_12 ff_13) 3 7)), V.int (gi (encN fa_8 fb_9 fc_10 fd_11 fe_12 ff_13) 7), V.int (valN (cutI (encN fa_8 fb_9 fc_10 fd_11 fe_12 ff_13) 8 10)), V.int (valN (cutI (encN fa_8 fb_9 fc_10 fd_11 fe_12 ff_13) 10 12))])), (p_45, .ins A.c_Inode dx_46 [("kind", V.int (gi (encN fa_8 fb_9 fc_10 fd_11 fe_12 ff_13) 0)), ("links", V.int (valN (cutI (encN fa_8 fb_9 fc_10 fd_11 fe_12 ff_13) 1 3))), ("size", V.int (valN (cutI (encN fa_8 fb_9 fc_10 fd_11 fe_12 ff_13) 3 7))), ("height", V.int (gi (encN fa_8 fb_9 fc_10 fd_11 fe_12 ff_13) 7)), ("root", V.int (valN (cutI (encN fa_8 fb_9 fc_10 fd_11 fe_12 ff_13) 8 10))), ("parent", V.int (valN (cutI (encN fa_8 fb_9 fc_10 fd_11 fe_12 ff_13) 10 12)))]), (p_38, .lst (ws_39.map V.int)), (p_31, .lst ((encN fa_8 fb_9 fc_10 fd_11 fe_12 ff_13 ++ ([1] : List Int)).map V.int)), (p_26, .lst ([V.int fa_8, V.int fb_9, V.int fc_10, V.int fd_11, V.int fe_12, V.int ff_13])), (p18, .ins A.c_Inode d19 [("kind", V.int fa_8), ("links", V.int fb_9), ("size", V.int fc_10), ("height", V.int fd_11), ("root", V.int fe_12), ("parent", V.int ff_13)]), (d19, .own p18), (p_7, .lst ([V.int fa_8, V.int fb_9, V.int fc_10, V.int fd_11, V.int fe_12, V.int ff_13])), (p5, .lst ([V.int 1, V.int 2, V.int 3, V.int 16])), (p3, .lst ([V.int 1, V.int 2, V.int 3, V.int 16]))] _ := s132.call (R := [(d131, .own p130), (p120, .lst ((List.replicate (16 : Int).toNat 0).map V.int)), (p118, .lst ([V.int 0])), (p102, .lst ((ws.set (0 : Int).toNat n110).map V.int)), (p90, .lst ([V.int 0, V.int 1, V.int 2, V.int 3, V.int 4, V.int 255, V.int n89])), (p_81, .lst ((ws_82.set n88.toNat (gi ([0, 1, 2, 3, 4, 255, n89]) n92)).map V.int)), (p_76, .lst ([V.int fa_8, V.int fb_9, V.int fc_10, V.int fd_11, V.int fe_12, V.int ff_13])), (p_68, .lst (ws_69.map V.int)), (p_64, .lst ((encN fa_8 fb_9 fc_10 fd_11 fe_12 ff_13).map V.int)), (p_53, .lst ([V.int (gi (encN fa_8 fb_9 fc_10 fd_11 fe_12 ff_13) 0), V.int (valN (cutI (encN fa_8 fb_9 fc_10 fd_11 fe_12 ff_13) 1 3)), V.int (valN (cutI (encN fa_8 fb_9 fc_10 fd_11 fe_12 ff_13) 3 7)), V.int (gi (encN fa_8 fb_9 fc_10 fd_11 fe_12 ff_13) 7), V.int (valN (cutI (encN fa_8 fb_9 fc_10 fd_11 fe_12 ff_13) 8 10)), V.int (valN (cutI (encN fa_8 fb_9 fc_10 fd_11 fe_12 ff_13) 10 12))])), (p_45, .ins A.c_Inode dx_46 [("kind", V.int (gi (encN fa_8 fb_9 fc_10 fd_11 fe_12 ff_13) 0)), ("links", V.int (valN (cutI (encN fa_8 fb_9 fc_10 fd_11 fe_12 ff_13) 1 3))), ("size", V.int (valN (cutI (encN fa_8 fb_9 fc_10 fd_11 fe_12 ff_13) 3 7))), ("height", V.int (gi (encN fa_8 fb_9 fc_10 fd_11 fe_12 ff_13) 7)), ("root", V.int (valN (cutI (encN fa_8 fb_9 fc_10 fd_11 fe_12 ff_13) 8 10))), ("parent", V.int (valN (cutI (encN fa_8 fb_9 fc_10 fd_11 fe_12 ff_13) 10 12)))]), (p_38, .lst (ws_39.map V.int)), (p_31, .lst ((encN fa_8 fb_9 fc_10 fd_11 fe_12 ff_13 ++ ([1] : List Int)).map V.int)), (p_26, .lst ([V.int fa_8, V.int fb_9, V.int fc_10, V.int fd_11, V.int fe_12, V.int ff_13])), (p18, .ins A.c_Inode d19 [("kind", V.int fa_8), ("links", V.int fb_9), ("size", V.int fc_10), ("height", V.int fd_11), ("root", V.int fe_12), ("parent", V.int ff_13)]), (d19, .own p18), (p_7, .lst ([V.int fa_8, V.int fb_9, V.int fc_10, V.int fd_11, V.int fe_12, V.int ff_13])), (p5, .lst ([V.int 1, V.int 2, V.int 3, V.int 16])), (p3, .lst ([V.int 1, V.int 2, V.int 3, V.int 16]))]) r134 [1, 2, 3, 4, 5, 6, 7, 8, 9, 10, 11, 12, 13, 14, 15, 16, 17, 18, 19] (by simp) (by decide) rfl (s132.sep [1, 2, 3, 4, 5, 6, 7, 8, 9, 10, 11, 12, 13, 14, 15, 16, 17, 18, 19] [0] (by decide) rfl rfl)
                                  refine ⟨rfl, ?_⟩
                                  refine c_nil ?_
                                  refine ⟨p130, d131, 1, 1, 0, 0, 0, 0, rfl, (s135.mem 0 rfl), fun p_136 H137 r138 => ?_⟩
                                  have s139 : Hs [] H [(p_136, .lst ([V.int 1, V.int 1, V.int 0, V.int 0, V.int 0, V.int 0])), (p130, .ins A.c_Inode d131 [("kind", V.int 1), ("links", V.int 1), ("size", V.int 0), ("height", V.int 0), ("root", V.int 0), ("parent", V.int 0)]), (d131, .own p130), (p120, .lst ((List.replicate (16 : Int).toNat 0).map V.int)), (p118, .lst ([V.int 0])), (p102, .lst ((ws.set (0 : Int).toNat n110).map V.int)), (p90, .lst ([V.int 0, V.int 1, V.int 2, V.int 3, V.int 4, V.int 255, V.int n89])), (p_81, .lst ((ws_82.set n88.toNat (gi ([0, 1, 2, 3, 4, 255, n89]) n92)).map V.int)), (p_76, .lst ([V.int fa_8, V.int fb_9, V.int fc_10, V.int fd_11, V.int fe_12, V.int ff_13])), (p_68, .lst (ws_69.map V.int)), (p_64, .lst ((encN fa_8 fb_9 fc_10 fd_11 fe_12 ff_13).map V.int)), (p_53, .lst ([V.int (gi (encN fa_8 fb_9 fc_10 fd_11 fe_12 ff_13) 0), V.int (valN (cutI (encN fa_8 fb_9 fc_10 fd_11 fe_12 ff_13) 1 3)), V.int (valN (cutI (encN fa_8 fb_9 fc_10 fd_11 fe_12 ff_13) 3 7)), V.int (gi (encN fa_8 fb_9 fc_10 fd_11 fe_12 ff_13) 7), V.int (valN (cutI (encN fa_8 fb_9 fc_10 fd_11 fe_12 ff_13) 8 10)), V.int (valN (cutI (encN fa_8 fb_9 fc_10 fd_11 fe_12 ff_13) 10 12))])), (p_45, .ins A.c_Inode dx_46 [("kind", V.int (gi (encN fa_8 fb_9 fc_10 fd_11 fe_12 ff_13) 0)), ("links", V.int (valN (cutI (encN fa_8 fb_9 fc_10 fd_11 fe_12 ff_13) 1 3))), ("size", V.int (valN (cutI (encN fa_8 fb_9 fc_10 fd_11 fe_12 ff_13) 3 7))), ("height", V.int (gi (encN fa_8 fb_9 fc_10 fd_11 fe_12 ff_13) 7)), ("root", V.int (valN (cutI (encN fa_8 fb_9 fc_10 fd_11 fe_12 ff_13) 8 10))), ("parent", V.int (valN (cutI (encN fa_8 fb_9 fc_10 fd_11 fe_12 ff_13) 10 12)))]), (p_38, .lst (ws_39.map V.int)), (p_31, .lst ((encN fa_8 fb_9 fc_10 fd_11 fe_12 ff_13 ++ ([1] : List Int)).map V.int)), (p_26, .lst ([V.int fa_8, V.int fb_9, V.int fc_10, V.int fd_11, V.int fe_12, V.int ff_13])), (p18, .ins A.c_Inode d19 [("kind", V.int fa_8), ("links", V.int fb_9), ("size", V.int fc_10), ("height", V.int fd_11), ("root", V.int fe_12), ("parent", V.int ff_13)]), (d19, .own p18), (p_7, .lst ([V.int fa_8, V.int fb_9, V.int fc_10, V.int fd_11, V.int fe_12, V.int ff_13])), (p5, .lst ([V.int 1, V.int 2, V.int 3, V.int 16])), (p3, .lst ([V.int 1, V.int 2, V.int 3, V.int 16]))] _ := s135.call0 r138
                                  refine c_lst ?_
                                  refine c_cons ?_
                                  refine vc _ ?_
                                  refine c_cons ?_
                                  refine vc _ ?_
                                  refine c_cons ?_
                                  refine vc _ ?_
                                  refine c_cons ?_
                                  refine vc _ ?_
                                  refine c_cons ?_
                                  refine vc _ ?_
                                  refine c_cons ?_
                                  refine vc _ ?_
                                  refine c_nil ?_
                                  refine ⟨sz1 (by show 6 ≤ 1000000; decide), fun p140 np140 => ?_⟩
                                  have s141 : Hs [] H [(p140, .lst ([V.int 1, V.int 1, V.int 0, V.int 0, V.int 0, V.int 0])), (p_136, .lst ([V.int 1, V.int 1, V.int 0, V.int 0, V.int 0, V.int 0])), (p130, .ins A.c_Inode d131 [("kind", V.int 1), ("links", V.int 1), ("size", V.int 0), ("height", V.int 0), ("root", V.int 0), ("parent", V.int 0)]), (d131, .own p130), (p120, .lst ((List.replicate (16 : Int).toNat 0).map V.int)), (p118, .lst ([V.int 0])), (p102, .lst ((ws.set (0 : Int).toNat n110).map V.int)), (p90, .lst ([V.int 0, V.int 1, V.int 2, V.int 3, V.int 4, V.int 255, V.int n89])), (p_81, .lst ((ws_82.set n88.toNat (gi ([0, 1, 2, 3, 4, 255, n89]) n92)).map V.int)), (p_76, .lst ([V.int fa_8, V.int fb_9, V.int fc_10, V.int fd_11, V.int fe_12, V.int ff_13])), (p_68, .lst (ws_69.map V.int)), (p_64, .lst ((encN fa_8 fb_9 fc_10 fd_11 fe_12 ff_13).map V.int)), (p_53, .lst ([V.int (gi (encN fa_8 fb_9 fc_10 fd_11 fe_12 ff_13) 0), V.int (valN (cutI (encN fa_8 fb_9 fc_10 fd_11 fe_12 ff_13) 1 3)), V.int (valN (cutI (encN fa_8 fb_9 fc_10 fd_11 fe_12 ff_13) 3 7)), V.int (gi (encN fa_8 fb_9 fc_10 fd_11 fe_12 ff_13) 7), V.int (valN (cutI (encN fa_8 fb_9 fc_10 fd_11 fe_12 ff_13) 8 10)), V.int (valN (cutI (encN fa_8 fb_9 fc_10 fd_11 fe_12 ff_13) 10 12))])), (p_45, .ins A.c_Inode dx_46 [("kind", V.int (gi (encN fa_8 fb_9 fc_10 fd_11 fe_12 ff_13) 0)), ("links", V.int (valN (cutI (encN fa_8 fb_9 fc_10 fd_11 fe_12 ff_13) 1 3))), ("size", V.int (valN (cutI (encN fa_8 fb_9 fc_10 fd_11 fe_12 ff_13) 3 7))), ("height", V.int (gi (encN fa_8 fb_9 fc_10 fd_11 fe_12 ff_13) 7)), ("root", V.int (valN (cutI (encN fa_8 fb_9 fc_10 fd_11 fe_12 ff_13) 8 10))), ("parent", V.int (valN (cutI (encN fa_8 fb_9 fc_10 fd_11 fe_12 ff_13) 10 12)))]), (p_38, .lst (ws_39.map V.int)), (p_31, .lst ((encN fa_8 fb_9 fc_10 fd_11 fe_12 ff_13 ++ ([1] : List Int)).map V.int)), (p_26, .lst ([V.int fa_8, V.int fb_9, V.int fc_10, V.int fd_11, V.int fe_12, V.int ff_13])), (p18, .ins A.c_Inode d19 [("kind", V.int fa_8), ("links", V.int fb_9), ("size", V.int fc_10), ("height", V.int fd_11), ("root", V.int fe_12), ("parent", V.int ff_13)]), (d19, .own p18), (p_7, .lst ([V.int fa_8, V.int fb_9, V.int fc_10, V.int fd_11, V.int fe_12, V.int ff_13])), (p5, .lst ([V.int 1, V.int 2, V.int 3, V.int 16])), (p3, .lst ([V.int 1, V.int 2, V.int 3, V.int 16]))] _ := s139.new np140 (.lst ([V.int 1, V.int 1, V.int 0, V.int 0, V.int 0, V.int 0]))
                                  refine ⟨.list (([1, 1, 0, 0, 0, 0]).map PyData.int), .list (([1, 1, 0, 0, 0, 0] : List Int).map PyData.int), (.lst (s141.l 1 rfl) (dp_ints ([1, 1, 0, 0, 0, 0]))), (.lst (s141.l 0 rfl) (dp_ints ([1, 1, 0, 0, 0, 0] : List Int))), (by walk_at "shp"), (by walk_at "shp"), ?_⟩
                                  rw [eqvL_ints]
                                  exact kQ _ (s141.pick [4, 5, 6, 7, 8, 9, 10, 11, 12, 13, 14, 15, 16, 17, 18, 19, 20, 21] (by decide) rfl)
                                · -- the second part
                                  refine c_op ?_
                                  refine c_callx ?_
                                  refine c_cons ?_
                                  refine c_makeN ?_
                                  refine c_cons ?_
                                  refine vc _ ?_
                                  refine c_nil ?_
                                  refine c_cons ?_
                                  refine vc _ ?_
                                  refine c_nil ?_
                                  refine ⟨rfl, rfl, ?_⟩
                                  intro p142 d143 np142 nd143 nep142
                                  have s144 := (s127.new nd143 (.own p142)).new (upd_none np142 nep142) (.ins A.c_Inode d143 [])
                                  refine ⟨p142, d143, 3, 1, 0, 0, 0, 9, rfl, (s144.mem 0 rfl), fun H145 r146 => ?_⟩
                                  have s147 : Hs [] H [(p142, .ins A.c_Inode d143 [("kind", V.int 3), ("links", V.int 1), ("size", V.int 0), ("height", V.int 0), ("root", V.int 0), ("parent", V.int 9)]), (d143, .own p142), (p120, .lst ((List.replicate (16 : Int).toNat 0).map V.int)), (p118, .lst ([V.int 0])), (p102, .lst ((ws.set (0 : Int).toNat n110).map V.int)), (p90, .lst ([V.int 0, V.int 1, V.int 2, V.int 3, V.int 4, V.int 255, V.int n89])), (p_81, .lst ((ws_82.set n88.toNat (gi ([0, 1, 2, 3, 4, 255, n89]) n92)).map V.int)), (p_76, .lst ([V.int fa_8, V.int fb_9, V.int fc_10, V.int fd_11, V.int fe_12, V.int ff_13])), (p_68, .lst (ws_69.map V.int)), (p_64, .lst ((encN fa_8 fb_9 fc_10 fd_11 fe_12 ff_13).map V.int)), (p_53, .lst ([V.int (gi (encN fa_8 fb_9 fc_10 fd_11 fe_12 ff_13) 0), V.int (valN (cutI (encN fa_8 fb_9 fc_10 fd_11 fe_12 ff_13) 1 3)), V.int (valN (cutI (encN fa_8 fb_9 fc_10 fd_11 fe_12 ff_13) 3 7)), V.int (gi (encN fa_8 fb_9 fc_10 fd_11 fe_12 ff_13) 7), V.int (valN (cutI (encN fa_8 fb_9 fc_10 fd_11 fe_12 ff_13) 8 10)), V.int (valN (cutI (encN fa_8 fb_9 fc_10 fd_11 fe_12 ff_13) 10 12))])), (p_45, .ins A.c_Inode dx_46 [("kind", V.int (gi (encN fa_8 fb_9 fc_10 fd_11 fe_12 ff_13) 0)), ("links", V.int (valN (cutI (encN fa_8 fb_9 fc_10 fd_11 fe_12 ff_13) 1 3))), ("size", V.int (valN (cutI (encN fa_8 fb_9 fc_10 fd_11 fe_12 ff_13) 3 7))), ("height", V.int (gi (encN fa_8 fb_9 fc_10 fd_11 fe_12 ff_13) 7)), ("root", V.int (valN (cutI (encN fa_8 fb_9 fc_10 fd_11 fe_12 ff_13) 8 10))), ("parent", V.int (valN (cutI (encN fa_8 fb_9 fc_10 fd_11 fe_12 ff_13) 10 12)))]), (p_38, .lst (ws_39.map V.int)), (p_31, .lst ((encN fa_8 fb_9 fc_10 fd_11 fe_12 ff_13 ++ ([1] : List Int)).map V.int)), (p_26, .lst ([V.int fa_8, V.int fb_9, V.int fc_10, V.int fd_11, V.int fe_12, V.int ff_13])), (p18, .ins A.c_Inode d19 [("kind", V.int fa_8), ("links", V.int fb_9), ("size", V.int fc_10), ("height", V.int fd_11), ("root", V.int fe_12), ("parent", V.int ff_13)]), (d19, .own p18), (p_7, .lst ([V.int fa_8, V.int fb_9, V.int fc_10, V.int fd_11, V.int fe_12, V.int ff_13])), (p5, .lst ([V.int 1, V.int 2, V.int 3, V.int 16])), (p3, .lst ([V.int 1, V.int 2, V.int 3, V.int 16]))] _ := s144.call (R := [(d143, .own p142), (p120, .lst ((List.replicate (16 : Int).toNat 0).map V.int)), (p118, .lst ([V.int 0])), (p102, .lst ((ws.set (0 : Int).toNat n110).map V.int)), (p90, .lst ([V.int 0, V.int 1, V.int 2, V.int 3, V.int 4, V.int 255, V.int n89])), (p_81, .lst ((ws_82.set n88.toNat (gi ([0, 1, 2, 3, 4, 255, n89]) n92)).map V.int)), (p_76, .lst ([V.int fa_8, V.int fb_9, V.int fc_10, V.int fd_11, V.int fe_12, V.int ff_13])), (p_68, .lst (ws_69.map V.int)), (p_64, .lst ((encN fa_8 fb_9 fc_10 fd_11 fe_12 ff_13).map V.int)), (p_53, .lst ([V.int (gi (encN fa_8 fb_9 fc_10 fd_11 fe_12 ff_13) 0), V.int (valN (cutI (encN fa_8 fb_9 fc_10 fd_11 fe_12 ff_13) 1 3)), V.int (valN (cutI (encN fa_8 fb_9 fc_10 fd_11 fe_12 ff_13) 3 7)), V.int (gi (encN fa_8 fb_9 fc_10 fd_11 fe_12 ff_13) 7), V.int (valN (cutI (encN fa_8 fb_9 fc_10 fd_11 fe_12 ff_13) 8 10)), V.int (valN (cutI (encN fa_8 fb_9 fc_10 fd_11 fe_12 ff_13) 10 12))])), (p_45, .ins A.c_Inode dx_46 [("kind", V.int (gi (encN fa_8 fb_9 fc_10 fd_11 fe_12 ff_13) 0)), ("links", V.int (valN (cutI (encN fa_8 fb_9 fc_10 fd_11 fe_12 ff_13) 1 3))), ("size", V.int (valN (cutI (encN fa_8 fb_9 fc_10 fd_11 fe_12 ff_13) 3 7))), ("height", V.int (gi (encN fa_8 fb_9 fc_10 fd_11 fe_12 ff_13) 7)), ("root", V.int (valN (cutI (encN fa_8 fb_9 fc_10 fd_11 fe_12 ff_13) 8 10))), ("parent", V.int (valN (cutI (encN fa_8 fb_9 fc_10 fd_11 fe_12 ff_13) 10 12)))]), (p_38, .lst (ws_39.map V.int)), (p_31, .lst ((encN fa_8 fb_9 fc_10 fd_11 fe_12 ff_13 ++ ([1] : List Int)).map V.int)), (p_26, .lst ([V.int fa_8, V.int fb_9, V.int fc_10, V.int fd_11, V.int fe_12, V.int ff_13])), (p18, .ins A.c_Inode d19 [("kind", V.int fa_8), ("links", V.int fb_9), ("size", V.int fc_10), ("height", V.int fd_11), ("root", V.int fe_12), ("parent", V.int ff_13)]), (d19, .own p18), (p_7, .lst ([V.int fa_8, V.int fb_9, V.int fc_10, V.int fd_11, V.int fe_12, V.int ff_13])), (p5, .lst ([V.int 1, V.int 2, V.int 3, V.int 16])), (p3, .lst ([V.int 1, V.int 2, V.int 3, V.int 16]))]) r146 [1, 2, 3, 4, 5, 6, 7, 8, 9, 10, 11, 12, 13, 14, 15, 16, 17, 18, 19] (by simp) (by decide) rfl (s144.sep [1, 2, 3, 4, 5, 6, 7, 8, 9, 10, 11, 12, 13, 14, 15, 16, 17, 18, 19] [0] (by decide) rfl rfl)
                                  refine ⟨rfl, ?_⟩
                                  refine c_nil ?_
                                  refine ⟨p142, d143, 3, 1, 0, 0, 0, 9, rfl, (s147.mem 0 rfl), fun p_148 H149 r150 => ?_⟩
                                  have s151 : Hs [] H [(p_148, .lst ([V.int 3, V.int 1, V.int 0, V.int 0, V.int 0, V.int 9])), (p142, .ins A.c_Inode d143 [("kind", V.int 3), ("links", V.int 1), ("size", V.int 0), ("height", V.int 0), ("root", V.int 0), ("parent", V.int 9)]), (d143, .own p142), (p120, .lst ((List.replicate (16 : Int).toNat 0).map V.int)), (p118, .lst ([V.int 0])), (p102, .lst ((ws.set (0 : Int).toNat n110).map V.int)), (p90, .lst ([V.int 0, V.int 1, V.int 2, V.int 3, V.int 4, V.int 255, V.int n89])), (p_81, .lst ((ws_82.set n88.toNat (gi ([0, 1, 2, 3, 4, 255, n89]) n92)).map V.int)), (p_76, .lst ([V.int fa_8, V.int fb_9, V.int fc_10, V.int fd_11, V.int fe_12, V.int ff_13])), (p_68, .lst (ws_69.map V.int)), (p_64, .lst ((encN fa_8 fb_9 fc_10 fd_11 fe_12 ff_13).map V.int)), (p_53, .lst ([V.int (gi (encN fa_8 fb_9 fc_10 fd_11 fe_12 ff_13) 0), V.int (valN (cutI (encN fa_8 fb_9 fc_10 fd_11 fe_12 ff_13) 1 3)), V.int (valN (cutI (encN fa_8 fb_9 fc_10 fd_11 fe_12 ff_13) 3 7)), V.int (gi (encN fa_8 fb_9 fc_10 fd_11 fe_12 ff_13) 7), V.int (valN (cutI (encN fa_8 fb_9 fc_10 fd_11 fe_12 ff_13) 8 10)), V.int (valN (cutI (encN fa_8 fb_9 fc_10 fd_11 fe_12 ff_13) 10 12))])), (p_45, .ins A.c_Inode dx_46 [("kind", V.int (gi (encN fa_8 fb_9 fc_10 fd_11 fe_12 ff_13) 0)), ("links", V.int (valN (cutI (encN fa_8 fb_9 fc_10 fd_11 fe_12 ff_13) 1 3))), ("size", V.int (valN (cutI (encN fa_8 fb_9 fc_10 fd_11 fe_12 ff_13) 3 7))), ("height", V.int (gi (encN fa_8 fb_9 fc_10 fd_11 fe_12 ff_13) 7)), ("root", V.int (valN (cutI (encN fa_8 fb_9 fc_10 fd_11 fe_12 ff_13) 8 10))), ("parent", V.int (valN (cutI (encN fa_8 fb_9 fc_10 fd_11 fe_12 ff_13) 10 12)))]), (p_38, .lst (ws_39.map V.int)), (p_31, .lst ((encN fa_8 fb_9 fc_10 fd_11 fe_12 ff_13 ++ ([1] : List Int)).map V.int)), (p_26, .lst ([V.int fa_8, V.int fb_9, V.int fc_10, V.int fd_11, V.int fe_12, V.int ff_13])), (p18, .ins A.c_Inode d19 [("kind", V.int fa_8), ("links", V.int fb_9), ("size", V.int fc_10), ("height", V.int fd_11), ("root", V.int fe_12), ("parent", V.int ff_13)]), (d19, .own p18), (p_7, .lst ([V.int fa_8, V.int fb_9, V.int fc_10, V.int fd_11, V.int fe_12, V.int ff_13])), (p5, .lst ([V.int 1, V.int 2, V.int 3, V.int 16])), (p3, .lst ([V.int 1, V.int 2, V.int 3, V.int 16]))] _ := s147.call0 r150
                                  refine c_lst ?_
                                  refine c_cons ?_
                                  refine vc _ ?_
                                  refine c_cons ?_
                                  refine vc _ ?_
                                  refine c_cons ?_
                                  refine vc _ ?_
                                  refine c_cons ?_
                                  refine vc _ ?_
                                  refine c_cons ?_
                                  refine vc _ ?_
                                  refine c_cons ?_
                                  refine vc _ ?_
                                  refine c_nil ?_
                                  refine ⟨sz1 (by show 6 ≤ 1000000; decide), fun p152 np152 => ?_⟩
                                  have s153 : Hs [] H [(p152, .lst ([V.int 3, V.int 1, V.int 0, V.int 0, V.int 0, V.int 9])), (p_148, .lst ([V.int 3, V.int 1, V.int 0, V.int 0, V.int 0, V.int 9])), (p142, .ins A.c_Inode d143 [("kind", V.int 3), ("links", V.int 1), ("size", V.int 0), ("height", V.int 0), ("root", V.int 0), ("parent", V.int 9)]), (d143, .own p142), (p120, .lst ((List.replicate (16 : Int).toNat 0).map V.int)), (p118, .lst ([V.int 0])), (p102, .lst ((ws.set (0 : Int).toNat n110).map V.int)), (p90, .lst ([V.int 0, V.int 1, V.int 2, V.int 3, V.int 4, V.int 255, V.int n89])), (p_81, .lst ((ws_82.set n88.toNat (gi ([0, 1, 2, 3, 4, 255, n89]) n92)).map V.int)), (p_76, .lst ([V.int fa_8, V.int fb_9, V.int fc_10, V.int fd_11, V.int fe_12, V.int ff_13])), (p_68, .lst (ws_69.map V.int)), (p_64, .lst ((encN fa_8 fb_9 fc_10 fd_11 fe_12 ff_13).map V.int)), (p_53, .lst ([V.int (gi (encN fa_8 fb_9 fc_10 fd_11 fe_12 ff_13) 0), V.int (valN (cutI (encN fa_8 fb_9 fc_10 fd_11 fe_12 ff_13) 1 3)), V.int (valN (cutI (encN fa_8 fb_9 fc_10 fd_11 fe_12 ff_13) 3 7)), V.int (gi (encN fa_8 fb_9 fc_10 fd_11 fe_12 ff_13) 7), V.int (valN (cutI (encN fa_8 fb_9 fc_10 fd_11 fe_12 ff_13) 8 10)), V.int (valN (cutI (encN fa_8 fb_9 fc_10 fd_11 fe_12 ff_13) 10 12))])), (p_45, .ins A.c_Inode dx_46 [("kind", V.int (gi (encN fa_8 fb_9 fc_10 fd_11 fe_12 ff_13) 0)), ("links", V.int (valN (cutI (encN fa_8 fb_9 fc_10 fd_11 fe_12 ff_13) 1 3))), ("size", V.int (valN (cutI (encN fa_8 fb_9 fc_10 fd_11 fe_12 ff_13) 3 7))), ("height", V.int (gi (encN fa_8 fb_9 fc_10 fd_11 fe_12 ff_13) 7)), ("root", V.int (valN (cutI (encN fa_8 fb_9 fc_10 fd_11 fe_12 ff_13) 8 10))), ("parent", V.int (valN (cutI (encN fa_8 fb_9 fc_10 fd_11 fe_12 ff_13) 10 12)))]), (p_38, .lst (ws_39.map V.int)), (p_31, .lst ((encN fa_8 fb_9 fc_10 fd_11 fe_12 ff_13 ++ ([1] : List Int)).map V.int)), (p_26, .lst ([V.int fa_8, V.int fb_9, V.int fc_10, V.int fd_11, V.int fe_12, V.int ff_13])), (p18, .ins A.c_Inode d19 [("kind", V.int fa_8), ("links", V.int fb_9), ("size", V.int fc_10), ("height", V.int fd_11), ("root", V.int fe_12), ("parent", V.int ff_13)]), (d19, .own p18), (p_7, .lst ([V.int fa_8, V.int fb_9, V.int fc_10, V.int fd_11, V.int fe_12, V.int ff_13])), (p5, .lst ([V.int 1, V.int 2, V.int 3, V.int 16])), (p3, .lst ([V.int 1, V.int 2, V.int 3, V.int 16]))] _ := s151.new np152 (.lst ([V.int 3, V.int 1, V.int 0, V.int 0, V.int 0, V.int 9]))
                                  refine ⟨.list (([3, 1, 0, 0, 0, 9]).map PyData.int), .list (([3, 1, 0, 0, 0, 9] : List Int).map PyData.int), (.lst (s153.l 1 rfl) (dp_ints ([3, 1, 0, 0, 0, 9]))), (.lst (s153.l 0 rfl) (dp_ints ([3, 1, 0, 0, 0, 9] : List Int))), (by walk_at "shp"), (by walk_at "shp"), ?_⟩
                                  rw [eqvL_ints]
                                  exact kQ _ (s153.pick [4, 5, 6, 7, 8, 9, 10, 11, 12, 13, 14, 15, 16, 17, 18, 19, 20, 21] (by decide) rfl)
                                · -- on
                                  exact fin (kq _) (by walk_at "fin")
end
theorem all_mk {l : PySem.W.OpenLaw} {w : World} {K : PySem.W.Frag} {h : Heap} {mg : Str → Option Value} {fa : Addr} {od_number_octets an_number_octets : Option Addr} {sl_number_octets : Array (Option Value)} {oc_number_octets kV_number_octets dc_number_octets pm_number_octets cd_number_octets ct_number_octets : Value} {a_number_octets : Addr}
    {od_number_of an_number_of : Option Addr} {sl_number_of : Array (Option Value)} {oc_number_of kV_number_of dc_number_of pm_number_of cd_number_of ct_number_of : Value} {a_number_of : Addr}
    {od_Inode___init__ an_Inode___init__ : Option Addr} {sl_Inode___init__ : Array (Option Value)} {oc_Inode___init__ kV_Inode___init__ dc_Inode___init__ pm_Inode___init__ cd_Inode___init__ ct_Inode___init__ : Value} {a_Inode___init__ : Addr}
    {od_Inode_is_directory an_Inode_is_directory : Option Addr} {sl_Inode_is_directory : Array (Option Value)} {oc_Inode_is_directory kV_Inode_is_directory dc_Inode_is_directory pm_Inode_is_directory cd_Inode_is_directory ct_Inode_is_directory : Value} {a_Inode_is_directory : Addr}
    {od_encode_inode an_encode_inode : Option Addr} {sl_encode_inode : Array (Option Value)} {oc_encode_inode kV_encode_inode dc_encode_inode pm_encode_inode cd_encode_inode ct_encode_inode : Value} {a_encode_inode : Addr}
    {od_decode_inode an_decode_inode : Option Addr} {sl_decode_inode : Array (Option Value)} {oc_decode_inode kV_decode_inode dc_decode_inode pm_decode_inode cd_decode_inode ct_decode_inode : Value} {a_decode_inode : Addr}
    {od__law_row an__law_row : Option Addr} {sl__law_row : Array (Option Value)} {oc__law_row kV__law_row dc__law_row pm__law_row cd__law_row ct__law_row : Value} {a__law_row : Addr}
    {od__law_is_integer an__law_is_integer : Option Addr} {sl__law_is_integer : Array (Option Value)} {oc__law_is_integer kV__law_is_integer dc__law_is_integer pm__law_is_integer cd__law_is_integer ct__law_is_integer : Value} {a__law_is_integer : Addr}
    {od__law_is an__law_is : Option Addr} {sl__law_is : Array (Option Value)} {oc__law_is kV__law_is dc__law_is pm__law_is cd__law_is ct__law_is : Value} {a__law_is : Addr}
    {od__law_fields an__law_fields : Option Addr} {sl__law_fields : Array (Option Value)} {oc__law_fields kV__law_fields dc__law_fields pm__law_fields cd__law_fields ct__law_fields : Value} {a__law_fields : Addr}
    {od__law_octets an__law_octets : Option Addr} {sl__law_octets : Array (Option Value)} {oc__law_octets kV__law_octets dc__law_octets pm__law_octets cd__law_octets ct__law_octets : Value} {a__law_octets : Addr}
    {od__law_drawn an__law_drawn : Option Addr} {sl__law_drawn : Array (Option Value)} {oc__law_drawn kV__law_drawn dc__law_drawn pm__law_drawn cd__law_drawn ct__law_drawn : Value} {a__law_drawn : Addr}
    {od__law_reads an__law_reads : Option Addr} {sl__law_reads : Array (Option Value)} {oc__law_reads kV__law_reads dc__law_reads pm__law_reads cd__law_reads ct__law_reads : Value} {a__law_reads : Addr}
    {od_law an_law : Option Addr} {sl_law : Array (Option Value)} {oc_law kV_law dc_law pm_law cd_law ct_law : Value} {a_law : Addr}
    {c_Inode : Addr}
    {t_DIRECTORY : Tok}
    {t_FILE : Tok}
    {t_INODE_OCTETS : Tok}
    {t_LINK : Tok}
    {T_Inode___init__ : Addr} {tc_Inode___init__ : Value} {td_Inode___init__ : Option Addr} {tn_Inode___init__ : Nat} {ts_Inode___init__ : Array (Option Value)} {e_Inode___init___0 : Tok} {e_Inode___init___1 : Tok} {e_Inode___init___2 : Tok} {e_Inode___init___3 : Tok} {e_Inode___init___4 : Tok}
    {p_Inode_is_directory : Addr} {rest_Inode_is_directory : List Value} (X : K.In h) (G : h.Ns mainGlobals mg) (hfa : mg "law" = some (.ref fa))
    (g_Inode : PySem.W.nsIn K mainGlobals "Inode" = some (some (.ref c_Inode)))
    (p1_Inode : PySem.W.plainGet K c_Inode Str.empty = true)
    (p2_Inode : PySem.W.hasDictIn K c_Inode = true)
    (p3_Inode : PySem.W.plainOver K c_Inode = true)
    (p4_Inode : PySem.W.findIn K (.ref c_Inode) "__setattr__" = some (some (.builtin "object.__setattr__")))
    (p5_Inode : PySem.W.makesIn K c_Inode = true)
    (p6_Inode : PySem.W.keepIn K (.ref c_Inode) = true)
    (n_Inode_height : PySem.W.findIn K (.ref c_Inode) "height" = some none)
    (n_Inode_kind : PySem.W.findIn K (.ref c_Inode) "kind" = some none)
    (n_Inode_links : PySem.W.findIn K (.ref c_Inode) "links" = some none)
    (n_Inode_parent : PySem.W.findIn K (.ref c_Inode) "parent" = some none)
    (n_Inode_root : PySem.W.findIn K (.ref c_Inode) "root" = some none)
    (n_Inode_size : PySem.W.findIn K (.ref c_Inode) "size" = some none)
    (k_DIRECTORY : PySem.W.nsIn K mainGlobals "DIRECTORY" = some (some (.int 2 t_DIRECTORY)))
    (k_FILE : PySem.W.nsIn K mainGlobals "FILE" = some (some (.int 1 t_FILE)))
    (k_INODE_OCTETS : PySem.W.nsIn K mainGlobals "INODE_OCTETS" = some (some (.int 16 t_INODE_OCTETS)))
    (k_LINK : PySem.W.nsIn K mainGlobals "LINK" = some (some (.int 3 t_LINK)))
    (z_any : PySem.W.nsIn K mainGlobals "any" = some none)
    (z_bool : PySem.W.nsIn K mainGlobals "bool" = some none)
    (z_int : PySem.W.nsIn K mainGlobals "int" = some none)
    (z_isinstance : PySem.W.nsIn K mainGlobals "isinstance" = some none)
    (z_len : PySem.W.nsIn K mainGlobals "len" = some none)
    (z_list : PySem.W.nsIn K mainGlobals "list" = some none)
    (z_min : PySem.W.nsIn K mainGlobals "min" = some none)
    (z_range : PySem.W.nsIn K mainGlobals "range" = some none)
    (z_reversed : PySem.W.nsIn K mainGlobals "reversed" = some none)
    (h1_number_octets : PySem.W.nsIn K mainGlobals "number_octets" = some (some (.ref a_number_octets)))
    (h3_number_octets : K.lookup a_number_octets = some ⟨oc_number_octets, od_number_octets, .func (PySem.W.fnOf "number_octets" "number_octets" (defArgs st_number_octets) (defBody st_number_octets) (defScope st_number_octets) .none kV_number_octets dc_number_octets pm_number_octets an_number_octets cd_number_octets ct_number_octets), sl_number_octets⟩)
    (h4_number_octets : PySem.W.codeIn K cd_number_octets "number_octets" = true)
    (h5_number_octets : PySem.W.keepIn K (.ref a_number_octets) = true)
    (h1_number_of : PySem.W.nsIn K mainGlobals "number_of" = some (some (.ref a_number_of)))
    (h3_number_of : K.lookup a_number_of = some ⟨oc_number_of, od_number_of, .func (PySem.W.fnOf "number_of" "number_of" (defArgs st_number_of) (defBody st_number_of) (defScope st_number_of) .none kV_number_of dc_number_of pm_number_of an_number_of cd_number_of ct_number_of), sl_number_of⟩)
    (h4_number_of : PySem.W.codeIn K cd_number_of "number_of" = true)
    (h5_number_of : PySem.W.keepIn K (.ref a_number_of) = true)
    (h1_Inode___init__ : PySem.W.findIn K (.ref c_Inode) "__init__" = some (some (.ref a_Inode___init__)))
    (h2_Inode___init__ : PySem.W.isFn K (.ref a_Inode___init__) = true)
    (h3_Inode___init__ : K.lookup a_Inode___init__ = some ⟨oc_Inode___init__, od_Inode___init__, .func (PySem.W.fnOf "__init__" "Inode.__init__" (defArgs st_Inode___init__) (defBody st_Inode___init__) (defScope st_Inode___init__) (.ref T_Inode___init__) kV_Inode___init__ dc_Inode___init__ pm_Inode___init__ an_Inode___init__ cd_Inode___init__ ct_Inode___init__), sl_Inode___init__⟩)
    (h4_Inode___init__ : PySem.W.codeIn K cd_Inode___init__ "Inode.__init__" = true)
    (h5_Inode___init__ : PySem.W.keepIn K (.ref a_Inode___init__) = true)
    (h6_Inode___init__ : K.lookup T_Inode___init__ = some ⟨tc_Inode___init__, td_Inode___init__, .seq (List.toArray [.int 1 e_Inode___init___0, .int 0 e_Inode___init___1, .int 0 e_Inode___init___2, .int 0 e_Inode___init___3, .int 0 e_Inode___init___4]) tn_Inode___init__, ts_Inode___init__⟩)
    (h1_Inode_is_directory : PySem.W.findIn K (.ref c_Inode) "is_directory" = some (some (.ref p_Inode_is_directory)))
    (h2_Inode_is_directory : PySem.W.specialIn K (.ref p_Inode_is_directory) "__get__" = some (some (.builtin "property.__get__")))
    (h7_Inode_is_directory : PySem.W.takesIn K (.ref p_Inode_is_directory) = some true)
    (h8_Inode_is_directory : PySem.W.recIn K p_Inode_is_directory "property" = some (.ref a_Inode_is_directory :: rest_Inode_is_directory))
    (h3_Inode_is_directory : K.lookup a_Inode_is_directory = some ⟨oc_Inode_is_directory, od_Inode_is_directory, .func (PySem.W.fnOf "is_directory" "Inode.is_directory" (defArgs st_Inode_is_directory) (defBody st_Inode_is_directory) (defScope st_Inode_is_directory) .none kV_Inode_is_directory dc_Inode_is_directory pm_Inode_is_directory an_Inode_is_directory cd_Inode_is_directory ct_Inode_is_directory), sl_Inode_is_directory⟩)
    (h4_Inode_is_directory : PySem.W.codeIn K cd_Inode_is_directory "Inode.is_directory" = true)
    (h5_Inode_is_directory : PySem.W.keepIn K (.ref a_Inode_is_directory) = true)
    (h1_encode_inode : PySem.W.nsIn K mainGlobals "encode_inode" = some (some (.ref a_encode_inode)))
    (h3_encode_inode : K.lookup a_encode_inode = some ⟨oc_encode_inode, od_encode_inode, .func (PySem.W.fnOf "encode_inode" "encode_inode" (defArgs st_encode_inode) (defBody st_encode_inode) (defScope st_encode_inode) .none kV_encode_inode dc_encode_inode pm_encode_inode an_encode_inode cd_encode_inode ct_encode_inode), sl_encode_inode⟩)
    (h4_encode_inode : PySem.W.codeIn K cd_encode_inode "encode_inode" = true)
    (h5_encode_inode : PySem.W.keepIn K (.ref a_encode_inode) = true)
    (h1_decode_inode : PySem.W.nsIn K mainGlobals "decode_inode" = some (some (.ref a_decode_inode)))
    (h3_decode_inode : K.lookup a_decode_inode = some ⟨oc_decode_inode, od_decode_inode, .func (PySem.W.fnOf "decode_inode" "decode_inode" (defArgs st_decode_inode) (defBody st_decode_inode) (defScope st_decode_inode) .none kV_decode_inode dc_decode_inode pm_decode_inode an_decode_inode cd_decode_inode ct_decode_inode), sl_decode_inode⟩)
    (h4_decode_inode : PySem.W.codeIn K cd_decode_inode "decode_inode" = true)
    (h5_decode_inode : PySem.W.keepIn K (.ref a_decode_inode) = true)
    (h1__law_row : PySem.W.nsIn K mainGlobals "_law_row" = some (some (.ref a__law_row)))
    (h3__law_row : K.lookup a__law_row = some ⟨oc__law_row, od__law_row, .func (PySem.W.fnOf "_law_row" "_law_row" (defArgs st__law_row) (defBody st__law_row) (defScope st__law_row) .none kV__law_row dc__law_row pm__law_row an__law_row cd__law_row ct__law_row), sl__law_row⟩)
    (h4__law_row : PySem.W.codeIn K cd__law_row "_law_row" = true)
    (h5__law_row : PySem.W.keepIn K (.ref a__law_row) = true)
    (h1__law_is_integer : PySem.W.nsIn K mainGlobals "_law_is_integer" = some (some (.ref a__law_is_integer)))
    (h3__law_is_integer : K.lookup a__law_is_integer = some ⟨oc__law_is_integer, od__law_is_integer, .func (PySem.W.fnOf "_law_is_integer" "_law_is_integer" (defArgs st__law_is_integer) (defBody st__law_is_integer) (defScope st__law_is_integer) .none kV__law_is_integer dc__law_is_integer pm__law_is_integer an__law_is_integer cd__law_is_integer ct__law_is_integer), sl__law_is_integer⟩)
    (h4__law_is_integer : PySem.W.codeIn K cd__law_is_integer "_law_is_integer" = true)
    (h5__law_is_integer : PySem.W.keepIn K (.ref a__law_is_integer) = true)
    (h1__law_is : PySem.W.nsIn K mainGlobals "_law_is" = some (some (.ref a__law_is)))
    (h3__law_is : K.lookup a__law_is = some ⟨oc__law_is, od__law_is, .func (PySem.W.fnOf "_law_is" "_law_is" (defArgs st__law_is) (defBody st__law_is) (defScope st__law_is) .none kV__law_is dc__law_is pm__law_is an__law_is cd__law_is ct__law_is), sl__law_is⟩)
    (h4__law_is : PySem.W.codeIn K cd__law_is "_law_is" = true)
    (h5__law_is : PySem.W.keepIn K (.ref a__law_is) = true)
    (h1__law_fields : PySem.W.nsIn K mainGlobals "_law_fields" = some (some (.ref a__law_fields)))
    (h3__law_fields : K.lookup a__law_fields = some ⟨oc__law_fields, od__law_fields, .func (PySem.W.fnOf "_law_fields" "_law_fields" (defArgs st__law_fields) (defBody st__law_fields) (defScope st__law_fields) .none kV__law_fields dc__law_fields pm__law_fields an__law_fields cd__law_fields ct__law_fields), sl__law_fields⟩)
    (h4__law_fields : PySem.W.codeIn K cd__law_fields "_law_fields" = true)
    (h5__law_fields : PySem.W.keepIn K (.ref a__law_fields) = true)
    (h1__law_octets : PySem.W.nsIn K mainGlobals "_law_octets" = some (some (.ref a__law_octets)))
    (h3__law_octets : K.lookup a__law_octets = some ⟨oc__law_octets, od__law_octets, .func (PySem.W.fnOf "_law_octets" "_law_octets" (defArgs st__law_octets) (defBody st__law_octets) (defScope st__law_octets) .none kV__law_octets dc__law_octets pm__law_octets an__law_octets cd__law_octets ct__law_octets), sl__law_octets⟩)
    (h4__law_octets : PySem.W.codeIn K cd__law_octets "_law_octets" = true)
    (h5__law_octets : PySem.W.keepIn K (.ref a__law_octets) = true)
    (h1__law_drawn : PySem.W.nsIn K mainGlobals "_law_drawn" = some (some (.ref a__law_drawn)))
    (h3__law_drawn : K.lookup a__law_drawn = some ⟨oc__law_drawn, od__law_drawn, .func (PySem.W.fnOf "_law_drawn" "_law_drawn" (defArgs st__law_drawn) (defBody st__law_drawn) (defScope st__law_drawn) .none kV__law_drawn dc__law_drawn pm__law_drawn an__law_drawn cd__law_drawn ct__law_drawn), sl__law_drawn⟩)
    (h4__law_drawn : PySem.W.codeIn K cd__law_drawn "_law_drawn" = true)
    (h5__law_drawn : PySem.W.keepIn K (.ref a__law_drawn) = true)
    (h1__law_reads : PySem.W.nsIn K mainGlobals "_law_reads" = some (some (.ref a__law_reads)))
    (h3__law_reads : K.lookup a__law_reads = some ⟨oc__law_reads, od__law_reads, .func (PySem.W.fnOf "_law_reads" "_law_reads" (defArgs st__law_reads) (defBody st__law_reads) (defScope st__law_reads) .none kV__law_reads dc__law_reads pm__law_reads an__law_reads cd__law_reads ct__law_reads), sl__law_reads⟩)
    (h4__law_reads : PySem.W.codeIn K cd__law_reads "_law_reads" = true)
    (h5__law_reads : PySem.W.keepIn K (.ref a__law_reads) = true)
    (h1_law : PySem.W.nsIn K mainGlobals "law" = some (some (.ref a_law)))
    (h3_law : K.lookup a_law = some ⟨oc_law, od_law, .func (PySem.W.fnOf "law" "law" (defArgs st_law) (defBody st_law) (defScope st_law) .none kV_law dc_law pm_law an_law cd_law ct_law), sl_law⟩)
    (h4_law : PySem.W.codeIn K cd_law "law" = true)
    (h5_law : PySem.W.keepIn K (.ref a_law) = true)
    : ∃ fd : FuncData, (∀ (s : Shared) (v : Value), BindsTo s fd ⟨[v], []⟩ [("_law_script", v)]) ∧ ∀ base : Heap, K.In base → base.Ns mainGlobals mg → FnOk l.prog w K mg base CX0 5 fa fd ["_law_script"] (sp_law0 K) := by
  have e := hfa.symm.trans (PySem.W.mg_of X G h1_law)
  cases e
  let A : Ads := ⟨a_number_octets, PySem.W.fnOf "number_octets" "number_octets" (defArgs st_number_octets) (defBody st_number_octets) (defScope st_number_octets) .none kV_number_octets dc_number_octets pm_number_octets an_number_octets cd_number_octets ct_number_octets, a_number_of, PySem.W.fnOf "number_of" "number_of" (defArgs st_number_of) (defBody st_number_of) (defScope st_number_of) .none kV_number_of dc_number_of pm_number_of an_number_of cd_number_of ct_number_of, a_Inode___init__, PySem.W.fnOf "__init__" "Inode.__init__" (defArgs st_Inode___init__) (defBody st_Inode___init__) (defScope st_Inode___init__) (.ref T_Inode___init__) kV_Inode___init__ dc_Inode___init__ pm_Inode___init__ an_Inode___init__ cd_Inode___init__ ct_Inode___init__, a_Inode_is_directory, PySem.W.fnOf "is_directory" "Inode.is_directory" (defArgs st_Inode_is_directory) (defBody st_Inode_is_directory) (defScope st_Inode_is_directory) .none kV_Inode_is_directory dc_Inode_is_directory pm_Inode_is_directory an_Inode_is_directory cd_Inode_is_directory ct_Inode_is_directory, a_encode_inode, PySem.W.fnOf "encode_inode" "encode_inode" (defArgs st_encode_inode) (defBody st_encode_inode) (defScope st_encode_inode) .none kV_encode_inode dc_encode_inode pm_encode_inode an_encode_inode cd_encode_inode ct_encode_inode, a_decode_inode, PySem.W.fnOf "decode_inode" "decode_inode" (defArgs st_decode_inode) (defBody st_decode_inode) (defScope st_decode_inode) .none kV_decode_inode dc_decode_inode pm_decode_inode an_decode_inode cd_decode_inode ct_decode_inode, a__law_row, PySem.W.fnOf "_law_row" "_law_row" (defArgs st__law_row) (defBody st__law_row) (defScope st__law_row) .none kV__law_row dc__law_row pm__law_row an__law_row cd__law_row ct__law_row, a__law_is_integer, PySem.W.fnOf "_law_is_integer" "_law_is_integer" (defArgs st__law_is_integer) (defBody st__law_is_integer) (defScope st__law_is_integer) .none kV__law_is_integer dc__law_is_integer pm__law_is_integer an__law_is_integer cd__law_is_integer ct__law_is_integer, a__law_is, PySem.W.fnOf "_law_is" "_law_is" (defArgs st__law_is) (defBody st__law_is) (defScope st__law_is) .none kV__law_is dc__law_is pm__law_is an__law_is cd__law_is ct__law_is, a__law_fields, PySem.W.fnOf "_law_fields" "_law_fields" (defArgs st__law_fields) (defBody st__law_fields) (defScope st__law_fields) .none kV__law_fields dc__law_fields pm__law_fields an__law_fields cd__law_fields ct__law_fields, a__law_octets, PySem.W.fnOf "_law_octets" "_law_octets" (defArgs st__law_octets) (defBody st__law_octets) (defScope st__law_octets) .none kV__law_octets dc__law_octets pm__law_octets an__law_octets cd__law_octets ct__law_octets, a__law_drawn, PySem.W.fnOf "_law_drawn" "_law_drawn" (defArgs st__law_drawn) (defBody st__law_drawn) (defScope st__law_drawn) .none kV__law_drawn dc__law_drawn pm__law_drawn an__law_drawn cd__law_drawn ct__law_drawn, a__law_reads, PySem.W.fnOf "_law_reads" "_law_reads" (defArgs st__law_reads) (defBody st__law_reads) (defScope st__law_reads) .none kV__law_reads dc__law_reads pm__law_reads an__law_reads cd__law_reads ct__law_reads, fa, PySem.W.fnOf "law" "law" (defArgs st_law) (defBody st_law) (defScope st_law) .none kV_law dc_law pm_law an_law cd_law ct_law, p_Inode_is_directory, c_Inode, t_DIRECTORY, t_FILE, t_INODE_OCTETS, t_LINK⟩
  have T : Txt K mg A := ⟨fun_mk (st := st_number_octets) h3_number_octets h4_number_octets h5_number_octets,
    (fun_mk (st := st_number_octets) h3_number_octets h4_number_octets h5_number_octets).binds (ps := ["number", "count"]) fun _ _ _ _ _ _ us hl => match us, hl with | [_, _], _ => rfl,
    PySem.W.mg_of X G h1_number_octets,
    fun_mk (st := st_number_of) h3_number_of h4_number_of h5_number_of,
    (fun_mk (st := st_number_of) h3_number_of h4_number_of h5_number_of).binds (ps := ["octets"]) fun _ _ _ _ _ _ us hl => match us, hl with | [_], _ => rfl,
    PySem.W.mg_of X G h1_number_of,
    funD_mk (st := st_Inode___init__) (dvs := [V.int 1, V.int 0, V.int 0, V.int 0, V.int 0]) h3_Inode___init__ h4_Inode___init__ h5_Inode___init__ h6_Inode___init__ (by simp) (.cons ⟨_, rfl⟩ (.cons ⟨_, rfl⟩ (.cons ⟨_, rfl⟩ (.cons ⟨_, rfl⟩ (.cons ⟨_, rfl⟩ .nil))))),
    (funD_mk (st := st_Inode___init__) (dvs := [V.int 1, V.int 0, V.int 0, V.int 0, V.int 0]) h3_Inode___init__ h4_Inode___init__ h5_Inode___init__ h6_Inode___init__ (by simp) (.cons ⟨_, rfl⟩ (.cons ⟨_, rfl⟩ (.cons ⟨_, rfl⟩ (.cons ⟨_, rfl⟩ (.cons ⟨_, rfl⟩ .nil)))))).binds1 2 0 (by simp) (by decide) (fun _ _ _ _ _ _ _ us its l1 l2 => match us, its, l1, l2 with | [_, _], [_, _, _, _, _], _, _ => ⟨_, rfl, rfl⟩),
    (funD_mk (st := st_Inode___init__) (dvs := [V.int 1, V.int 0, V.int 0, V.int 0, V.int 0]) h3_Inode___init__ h4_Inode___init__ h5_Inode___init__ h6_Inode___init__ (by simp) (.cons ⟨_, rfl⟩ (.cons ⟨_, rfl⟩ (.cons ⟨_, rfl⟩ (.cons ⟨_, rfl⟩ (.cons ⟨_, rfl⟩ .nil)))))).binds1 7 5 (by simp) (by decide) (fun _ _ _ _ _ _ _ us its l1 l2 => match us, its, l1, l2 with | [_, _, _, _, _, _, _], [_, _, _, _, _], _, _ => ⟨_, rfl, rfl⟩),
    (funD_mk (st := st_Inode___init__) (dvs := [V.int 1, V.int 0, V.int 0, V.int 0, V.int 0]) h3_Inode___init__ h4_Inode___init__ h5_Inode___init__ h6_Inode___init__ (by simp) (.cons ⟨_, rfl⟩ (.cons ⟨_, rfl⟩ (.cons ⟨_, rfl⟩ (.cons ⟨_, rfl⟩ (.cons ⟨_, rfl⟩ .nil)))))).kbindsD 2 ["parent"] (fun us its ws => us ++ (List.drop 0 its).take 1 ++ (List.drop 1 its).take 1 ++ (List.drop 2 its).take 1 ++ (List.drop 3 its).take 1 ++ (ws.drop 0).take 1) (by simp) (fun r1 r2 r3 => (((((r1.append ((r2.drop 0).take 1)).append ((r2.drop 1).take 1)).append ((r2.drop 2).take 1)).append ((r2.drop 3).take 1)).append ((r3.drop 0).take 1))) (fun _ _ _ _ _ _ _ us its ws l1 l2 l3 => match us, its, ws, l1, l2, l3 with | [_, _], [_, _, _, _, _], [_], _, _, _ => ⟨_, rfl, rfl⟩),
    fun_mk (st := st_Inode_is_directory) h3_Inode_is_directory h4_Inode_is_directory h5_Inode_is_directory,
    (fun_mk (st := st_Inode_is_directory) h3_Inode_is_directory h4_Inode_is_directory h5_Inode_is_directory).binds (ps := ["self"]) fun _ _ _ _ _ _ us hl => match us, hl with | [_], _ => rfl,
    ⟨h1_Inode_is_directory, h2_Inode_is_directory, h7_Inode_is_directory, _, h8_Inode_is_directory⟩,
    fun_mk (st := st_encode_inode) h3_encode_inode h4_encode_inode h5_encode_inode,
    (fun_mk (st := st_encode_inode) h3_encode_inode h4_encode_inode h5_encode_inode).binds (ps := ["inode"]) fun _ _ _ _ _ _ us hl => match us, hl with | [_], _ => rfl,
    PySem.W.mg_of X G h1_encode_inode,
    fun_mk (st := st_decode_inode) h3_decode_inode h4_decode_inode h5_decode_inode,
    (fun_mk (st := st_decode_inode) h3_decode_inode h4_decode_inode h5_decode_inode).binds (ps := ["octets"]) fun _ _ _ _ _ _ us hl => match us, hl with | [_], _ => rfl,
    PySem.W.mg_of X G h1_decode_inode,
    fun_mk (st := st__law_row) h3__law_row h4__law_row h5__law_row,
    (fun_mk (st := st__law_row) h3__law_row h4__law_row h5__law_row).binds (ps := ["_law_script", "_law_k"]) fun _ _ _ _ _ _ us hl => match us, hl with | [_, _], _ => rfl,
    PySem.W.mg_of X G h1__law_row,
    fun_mk (st := st__law_is_integer) h3__law_is_integer h4__law_is_integer h5__law_is_integer,
    (fun_mk (st := st__law_is_integer) h3__law_is_integer h4__law_is_integer h5__law_is_integer).binds (ps := ["_law_actual"]) fun _ _ _ _ _ _ us hl => match us, hl with | [_], _ => rfl,
    PySem.W.mg_of X G h1__law_is_integer,
    fun_mk (st := st__law_is) h3__law_is h4__law_is h5__law_is,
    (fun_mk (st := st__law_is) h3__law_is h4__law_is h5__law_is).binds (ps := ["_law_actual", "_law_due"]) fun _ _ _ _ _ _ us hl => match us, hl with | [_, _], _ => rfl,
    PySem.W.mg_of X G h1__law_is,
    fun_mk (st := st__law_fields) h3__law_fields h4__law_fields h5__law_fields,
    (fun_mk (st := st__law_fields) h3__law_fields h4__law_fields h5__law_fields).binds (ps := ["_law_inode"]) fun _ _ _ _ _ _ us hl => match us, hl with | [_], _ => rfl,
    PySem.W.mg_of X G h1__law_fields,
    fun_mk (st := st__law_octets) h3__law_octets h4__law_octets h5__law_octets,
    (fun_mk (st := st__law_octets) h3__law_octets h4__law_octets h5__law_octets).binds (ps := ["_law_fields_here"]) fun _ _ _ _ _ _ us hl => match us, hl with | [_], _ => rfl,
    PySem.W.mg_of X G h1__law_octets,
    fun_mk (st := st__law_drawn) h3__law_drawn h4__law_drawn h5__law_drawn,
    (fun_mk (st := st__law_drawn) h3__law_drawn h4__law_drawn h5__law_drawn).binds (ps := ["_law_script"]) fun _ _ _ _ _ _ us hl => match us, hl with | [_], _ => rfl,
    PySem.W.mg_of X G h1__law_drawn,
    fun_mk (st := st__law_reads) h3__law_reads h4__law_reads h5__law_reads,
    (fun_mk (st := st__law_reads) h3__law_reads h4__law_reads h5__law_reads).binds (ps := ["_law_octets_here"]) fun _ _ _ _ _ _ us hl => match us, hl with | [_], _ => rfl,
    PySem.W.mg_of X G h1__law_reads,
    fun_mk (st := st_law) h3_law h4_law h5_law,
    (fun_mk (st := st_law) h3_law h4_law h5_law).binds (ps := ["_law_script"]) fun _ _ _ _ _ _ us hl => match us, hl with | [_], _ => rfl,
    PySem.W.mg_of X G h1_law,
    PySem.W.mg_of X G g_Inode,
    ⟨p1_Inode, p2_Inode, p3_Inode, p4_Inode⟩,
    ⟨p5_Inode, h1_Inode___init__, h2_Inode___init__, p6_Inode⟩,
    n_Inode_height,
    n_Inode_kind,
    n_Inode_links,
    n_Inode_parent,
    n_Inode_root,
    n_Inode_size,
    PySem.W.mg_of X G k_DIRECTORY,
    PySem.W.mg_of X G k_FILE,
    PySem.W.mg_of X G k_INODE_OCTETS,
    PySem.W.mg_of X G k_LINK,
    PySem.W.mg_none_of X G z_any,
    PySem.W.mg_none_of X G z_bool,
    PySem.W.mg_none_of X G z_int,
    PySem.W.mg_none_of X G z_isinstance,
    PySem.W.mg_none_of X G z_len,
    PySem.W.mg_none_of X G z_list,
    PySem.W.mg_none_of X G z_min,
    PySem.W.mg_none_of X G z_range,
    PySem.W.mg_none_of X G z_reversed⟩
  exact ⟨PySem.W.fnOf "law" "law" (defArgs st_law) (defBody st_law) (defScope st_law) .none kV_law dc_law pm_law an_law cd_law ct_law, fun s v => .of_eq rfl, fun base _ _ => ok_law T⟩
end X
open PySem PySem.W PyProof.Rows
set_option maxHeartbeats 0 in
theorem PySem.Challenge.cw_segmentfs_k47_inodes_as_octets_holds : PySem.Challenge.rw_segmentfs_k47_inodes_as_octets.Holds := by
  w_on; o_law; k_head; (case hw => w_witness2)
  k_fill
  refine L2.walk_of (l := PySem.Challenge.rw_segmentfs_k47_inodes_as_octets) (n := 63) (k := 5) (x := "_law_script") (CX := fun _ => L2.CX0) (sp := fun w => X.sp_law0 _) rfl (by decide) rfl ⟨rfl, by decide, by decide⟩ (fun w h Y => PySem.W.kIn_of Y) ?F (fun _ _ a ns hl _ hS => ⟨a, ns, rfl, hS, hl, fun _ => rfl⟩) (fun _ _ _ _ _ h => h)
  case F =>
    intro w mg fa h KX G hmg
    refine' X.all_mk KX G hmg ?g_Inode ?p1_Inode ?p2_Inode ?p3_Inode ?p4_Inode ?p5_Inode ?p6_Inode ?n_Inode_height ?n_Inode_kind ?n_Inode_links ?n_Inode_parent ?n_Inode_root ?n_Inode_size ?k_DIRECTORY ?k_FILE ?k_INODE_OCTETS ?k_LINK ?z_any ?z_bool ?z_int ?z_isinstance ?z_len ?z_list ?z_min ?z_range ?z_reversed ?h1_number_octets ?h3_number_octets ?h4_number_octets ?h5_number_octets ?h1_number_of ?h3_number_of ?h4_number_of ?h5_number_of ?h1_Inode___init__ ?h2_Inode___init__ ?h3_Inode___init__ ?h4_Inode___init__ ?h5_Inode___init__ ?h6_Inode___init__ ?h1_Inode_is_directory ?h2_Inode_is_directory ?h7_Inode_is_directory ?h8_Inode_is_directory ?h3_Inode_is_directory ?h4_Inode_is_directory ?h5_Inode_is_directory ?h1_encode_inode ?h3_encode_inode ?h4_encode_inode ?h5_encode_inode ?h1_decode_inode ?h3_decode_inode ?h4_decode_inode ?h5_decode_inode ?h1__law_row ?h3__law_row ?h4__law_row ?h5__law_row ?h1__law_is_integer ?h3__law_is_integer ?h4__law_is_integer ?h5__law_is_integer ?h1__law_is ?h3__law_is ?h4__law_is ?h5__law_is ?h1__law_fields ?h3__law_fields ?h4__law_fields ?h5__law_fields ?h1__law_octets ?h3__law_octets ?h4__law_octets ?h5__law_octets ?h1__law_drawn ?h3__law_drawn ?h4__law_drawn ?h5__law_drawn ?h1__law_reads ?h3__law_reads ?h4__law_reads ?h5__law_reads ?h1_law ?h3_law ?h4_law ?h5_law
    (case g_Inode => k_is)
    (case p1_Inode => k_is)
    (case p2_Inode => k_is)
    (case p3_Inode => k_is)
    (case p4_Inode => k_is)
    (case p5_Inode => k_is)
    (case p6_Inode => k_is)
    (case n_Inode_height => k_is)
    (case n_Inode_kind => k_is)
    (case n_Inode_links => k_is)
    (case n_Inode_parent => k_is)
    (case n_Inode_root => k_is)
    (case n_Inode_size => k_is)
    (case k_DIRECTORY => k_is)
    (case k_FILE => k_is)
    (case k_INODE_OCTETS => k_is)
    (case k_LINK => k_is)
    (case z_any => k_is)
    (case z_bool => k_is)
    (case z_int => k_is)
    (case z_isinstance => k_is)
    (case z_len => k_is)
    (case z_list => k_is)
    (case z_min => k_is)
    (case z_range => k_is)
    (case z_reversed => k_is)
    (case h1_number_octets => k_is)
    (case h3_number_octets => k_is)
    (case h4_number_octets => k_is)
    (case h5_number_octets => k_is)
    (case h1_number_of => k_is)
    (case h3_number_of => k_is)
    (case h4_number_of => k_is)
    (case h5_number_of => k_is)
    (case h1_Inode___init__ => k_is)
    (case h2_Inode___init__ => k_is)
    (case h3_Inode___init__ => k_is)
    (case h4_Inode___init__ => k_is)
    (case h5_Inode___init__ => k_is)
    (case h6_Inode___init__ => k_is)
    (case h1_Inode_is_directory => k_is)
    (case h2_Inode_is_directory => k_is)
    (case h7_Inode_is_directory => k_is)
    (case h8_Inode_is_directory => k_is)
    (case h3_Inode_is_directory => k_is)
    (case h4_Inode_is_directory => k_is)
    (case h5_Inode_is_directory => k_is)
    (case h1_encode_inode => k_is)
    (case h3_encode_inode => k_is)
    (case h4_encode_inode => k_is)
    (case h5_encode_inode => k_is)
    (case h1_decode_inode => k_is)
    (case h3_decode_inode => k_is)
    (case h4_decode_inode => k_is)
    (case h5_decode_inode => k_is)
    (case h1__law_row => k_is)
    (case h3__law_row => k_is)
    (case h4__law_row => k_is)
    (case h5__law_row => k_is)
    (case h1__law_is_integer => k_is)
    (case h3__law_is_integer => k_is)
    (case h4__law_is_integer => k_is)
    (case h5__law_is_integer => k_is)
    (case h1__law_is => k_is)
    (case h3__law_is => k_is)
    (case h4__law_is => k_is)
    (case h5__law_is => k_is)
    (case h1__law_fields => k_is)
    (case h3__law_fields => k_is)
    (case h4__law_fields => k_is)
    (case h5__law_fields => k_is)
    (case h1__law_octets => k_is)
    (case h3__law_octets => k_is)
    (case h4__law_octets => k_is)
    (case h5__law_octets => k_is)
    (case h1__law_drawn => k_is)
    (case h3__law_drawn => k_is)
    (case h4__law_drawn => k_is)
    (case h5__law_drawn => k_is)
    (case h1__law_reads => k_is)
    (case h3__law_reads => k_is)
    (case h4__law_reads => k_is)
    (case h5__law_reads => k_is)
    (case h1_law => k_is)
    (case h3_law => k_is)
    (case h4_law => k_is)
    (case h5_law => k_is)
