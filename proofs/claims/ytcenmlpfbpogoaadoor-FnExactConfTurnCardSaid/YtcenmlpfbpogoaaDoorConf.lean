/- How a craft is made: what the laws copy, count and compare of it, and when it is right, as the reference and as the program ask it. No conditions. -/
import Derived.Test.YtcenmlpfbpogoaaDoorPx1
import Derived.Test.YtcenmlpfbpogoaaDoorPx2
import Derived.Test.YtcenmlpfbpogoaaDoorPx3
import Derived.Test.YtcenmlpfbpogoaaDoorOpsOk
import Derived.Test.YtcenmlpfbpogoaaDoorListInt
import Derived.Test.YtcenmlpfbpogoaaDoorListOp
namespace Go.Proofs.YtcenmlpfbpogoaaDoor.Conf
open Go.RowKit Go.Proofs.YtcenmlpfbpogoaaDoor.P Go.Proofs.YtcenmlpfbpogoaaDoor.E Go.Proofs.YtcenmlpfbpogoaaDoor.OpsOk Go.Proofs.YtcenmlpfbpogoaaDoor.Lists Go.Proofs.YtcenmlpfbpogoaaDoorW.PrintWords
set_option linter.unusedSimpArgs false
set_option linter.unusedVariables false
abbrev LOps := List (List S109)
abbrev IOps := List (List S107)
theorem mem_drop_succ {α : Type} {l : List α} {i : Nat} (h : i < l.length) {p : α → Prop} (h0 : p l[i]) (h1 : ∀ x ∈ l.drop (i + 1), p x) : ∀ x ∈ l.drop i, p x := by
  intro x hx
  rw [List.drop_eq_getElem_cons h] at hx
  rcases List.mem_cons.1 hx with rfl | hx
  · exact h0
  · exact h1 x hx
theorem take_set_succ {α : Type} (zs : List α) (i : Nat) (v : α) (h : i < zs.length) : (zs.set i v).take (i + 1) = zs.take i ++ [v] := by
  rw [List.take_succ_eq_append_getElem (by simpa using h)]
  simp [List.take_set_of_le]
theorem rdL (l : LOps) (i : Nat) (h : i < l.length) : rd_L2 l (i : Int) = l[i] := by simp [rd_L2, List.getD, h]
theorem rdI (l : IOps) (i : Nat) (h : i < l.length) : rd_L6 l (i : Int) = l[i] := by simp [rd_L6, List.getD, h]

/-! ### what the laws do -/
theorem szLoop (l : LOps) (hl : l.length ≤ 1048576) (hi : ∀ x ∈ l, x.length ≤ 9223372036854775807) : ∀ (d i : Nat) (n : Int), i + d = l.length → 0 ≤ n → n ≤ 1048576 →
    ∃ m, Ev (fun k => laws_szOpSS.l0 k l n (i : Int)) m ∧ m ≤ 1048576 ∧ (0 ≤ m → ∀ x ∈ l.drop i, x.length ≤ 1048576) := by
  intro d
  induction d with
  | zero =>
    intro i n hd h0 h1
    refine ⟨n, Ev.step (fun k => by rw [laws_szOpSS.l0]) (Ev.iteF (by omega) (Ev.now _)), h1, fun _ => ?_⟩
    rw [List.drop_of_length_le (by omega)]
    intro x hx
    exact absurd hx (by simp)
  | succ d ih =>
    intro i n hd h0 h1
    have hil : i < l.length := by omega
    have hz := szOpS_at l[i] n h0 h1 (hi _ (List.getElem_mem _))
    by_cases h : n - (l[i].length : Int) < 0
    · rw [if_pos h] at hz
      refine ⟨-1, ?_, by omega, fun h => absurd h (by omega)⟩
      refine Ev.step (fun k => by rw [laws_szOpSS.l0]) (Ev.iteT (by omega) (Ev.iteT (by omega) ?_))
      rw [rdL l i hil]
      exact Ev.bindc hz (Ev.iteT (by omega) (Ev.now _))
    · rw [if_neg h] at hz
      obtain ⟨m, hm, h3, h4⟩ := ih (i + 1) (n - (l[i].length : Int)) (by omega) (by omega) (by omega)
      refine ⟨m, ?_, h3, fun hm0 => mem_drop_succ hil (by omega) (h4 hm0)⟩
      refine Ev.step (fun k => by rw [laws_szOpSS.l0]) (Ev.iteT (by omega) (Ev.iteT (by omega) ?_))
      rw [rdL l i hil]
      refine Ev.bindc hz (Ev.iteF h ?_)
      rw [wrap_succ (by omega)]
      exact hm
theorem szOpSS_ev (l : LOps) (n : Int) (h0 : 0 ≤ n) (h1 : n ≤ 1048576) (hl : l.length ≤ 9223372036854775807) (hi : ∀ x ∈ l, x.length ≤ 9223372036854775807) :
    ∃ m, Ev (fun k => laws_szOpSS.f k l n) m ∧ m ≤ 1048576 ∧ (0 ≤ m → l.length ≤ 1048576 ∧ ∀ x ∈ l, x.length ≤ 1048576) := by
  unfold laws_szOpSS.f
  rw [wrap64_id (by omega) (by omega)]
  by_cases h : n - (l.length : Int) < 0
  · exact ⟨-1, Ev.iteT h (Ev.now _), by omega, fun h => absurd h (by omega)⟩
  · obtain ⟨m, hm, h3, h4⟩ := szLoop l (by omega) hi l.length 0 (n - (l.length : Int)) (by omega) (by omega) (by omega)
    exact ⟨m, Ev.iteF h hm, h3, fun hm0 => ⟨by omega, by simpa using h4 hm0⟩⟩
theorem toLoop (l : LOps) (hl : l.length ≤ 1048576) (hi : ∀ x ∈ l, x.length ≤ 1048576) : ∀ (d i : Nat) (zs : IOps), i + d = l.length → zs.length = l.length →
    Ev (fun k => laws_toOpSS.l0 k l zs (i : Int)) (zs.take i ++ (l.drop i).map (List.map opOf)) := by
  intro d
  induction d with
  | zero =>
    intro i zs hd hz
    refine Ev.step (fun k => by rw [laws_toOpSS.l0]) (Ev.iteF (by omega) (Ev.eq (Ev.now _) ?_))
    rw [List.drop_of_length_le (by omega), List.take_of_length_le (by omega)]
    simp
  | succ d ih =>
    intro i zs hd hz
    have hil : i < l.length := by omega
    refine Ev.step (fun k => by rw [laws_toOpSS.l0]) (Ev.iteT (by omega) (Ev.iteT (by omega) ?_))
    rw [rdL l i hil]
    refine Ev.bind (toOpS_ev l[i] (hi _ (List.getElem_mem _))) (Ev.iteT (by omega) ?_)
    rw [wrap_succ (by omega), toNat_cast]
    refine Ev.eq (ih (i + 1) _ (by omega) (by rw [List.length_set]; exact hz)) ?_
    rw [take_set_succ _ _ _ (by omega), List.drop_eq_getElem_cons hil, List.map_cons, List.append_assoc]
    rfl
theorem toOpSS_ev (l : LOps) (hl : l.length ≤ 1048576) (hi : ∀ x ∈ l, x.length ≤ 1048576) : Ev (fun k => laws_toOpSS.f k l) (l.map (List.map opOf)) := by
  unfold laws_toOpSS.f
  refine Ev.iteT (by omega) (Ev.iteT (by simp; omega) ?_)
  exact Ev.eq (toLoop l hl hi l.length 0 _ (by omega) (by simp)) (by simp)
theorem eqLoop (l : IOps) (hl : l.length ≤ 1048576) (hi : ∀ x ∈ l, x.length ≤ 1048576) : ∀ (d i : Nat), i + d = l.length → Ev (fun k => laws_eqOpSS.l0 k l l (i : Int)) true := by
  intro d
  induction d with
  | zero => intro i hd; exact Ev.step (fun k => by rw [laws_eqOpSS.l0]) (Ev.iteF (by omega) (Ev.now _))
  | succ d ih =>
    intro i hd
    have hil : i < l.length := by omega
    refine Ev.step (fun k => by rw [laws_eqOpSS.l0]) (Ev.iteT (by omega) (Ev.iteT (by omega) (Ev.iteT (by omega) ?_)))
    rw [rdI l i hil]
    refine Ev.bind (eqOpS_ev l[i] l[i] (by have := hi _ (List.getElem_mem hil); omega)) (Ev.iteT (by simp) ?_)
    rw [wrap_succ (by omega)]
    exact ih (i + 1) (by omega)
theorem eqOpSS_ev (l : IOps) (hl : l.length ≤ 1048576) (hi : ∀ x ∈ l, x.length ≤ 1048576) : Ev (fun k => laws_eqOpSS.f k l l) true := by
  unfold laws_eqOpSS.f
  exact Ev.iteT rfl (eqLoop l hl hi l.length 0 (by omega))
def ruleOf (x : S80) : S78 := ⟨x.f0, x.f1, x.f2, x.f3, x.f4, x.f5⟩
theorem szRuleS_at (l : List S80) (n : Int) (h0 : 0 ≤ n) (h1 : n ≤ 1048576) (hl : l.length ≤ 9223372036854775807) : laws_szRuleS.f l n = some (if n - l.length < 0 then -1 else n - l.length) := by
  unfold laws_szRuleS.f
  rw [wrap64_id (by omega) (by omega)]
  split <;> rfl
theorem toRuleS_ev (l : List S80) (hl : l.length ≤ 1048576) : Ev (fun k => laws_toRuleS.f k l) (l.map ruleOf) := by
  unfold laws_toRuleS.f
  refine Ev.iteT (by omega) (Ev.iteT (by simp; omega) ?_)
  refine Ev.eq (Ev.fill (L := fun k ys i => laws_toRuleS.l0 k l ys i) l.length 0 (fun i => ruleOf (l.getD i z80)) _ (by simp) (fun i hi k _ zs hz => ?_) (fun k _ zs hz => ?_)) ?_
  · show laws_toRuleS.l0 (k + 1) l zs i = _
    rw [laws_toRuleS.l0, if_pos (by omega), if_pos (by omega)]
    simp only [laws_toRule.f, Option.bind_some]
    rw [if_pos (by omega), wrap_succ (by omega)]
    simp [rd_T80, ruleOf]
  · show laws_toRuleS.l0 (k + 1) l zs l.length = _
    rw [laws_toRuleS.l0, if_neg (by omega)]
  · exact map_range_getD l z80 ruleOf
theorem eqRule_at (a0 a1 a2 a3 : Int) (a4 a5 : Bool) : laws_eqRule.f a0 a1 a2 a3 a4 a5 a0 a1 a2 a3 a4 a5 = some true := by
  unfold laws_eqRule.f
  simp
theorem eqRuleS_ev (l : List S78) (hl : l.length ≤ 1048576) : Ev (fun k => laws_eqRuleS.f k l l) true := by
  unfold laws_eqRuleS.f
  refine Ev.iteT rfl ?_
  refine Ev.loop (L := fun k (i : Int) => laws_eqRuleS.l0 k l l i) (fun i => (i : Int)) l.length 0 (fun i hi k _ => ?_) (fun k _ => ?_)
  · show laws_eqRuleS.l0 (k + 1) l l (i : Int) = _
    rw [laws_eqRuleS.l0, if_pos (by omega), if_pos (by omega), if_pos (by omega), eqRule_at, wrap_succ (by omega)]
    rfl
  · show laws_eqRuleS.l0 (k + 1) l l (l.length : Int) = _
    rw [laws_eqRuleS.l0, if_neg (by omega)]
/-- All the lists are short. -/
def Small {α β : Type} (l2 : List (List α)) (l3 l4 l5 l6 l7 : List Int) (l8 : List β) : Prop :=
  (l2.length ≤ 1048576 ∧ ∀ x ∈ l2, x.length ≤ 1048576) ∧ l3.length ≤ 1048576 ∧ l4.length ≤ 1048576 ∧ l5.length ≤ 1048576 ∧ l6.length ≤ 1048576 ∧ l7.length ≤ 1048576 ∧ l8.length ≤ 1048576
theorem Small.map {l2 : LOps} {l3 l4 l5 l6 l7 : List Int} {l8 : List S80} (h : Small l2 l3 l4 l5 l6 l7 l8) : Small (l2.map (List.map opOf)) l3 l4 l5 l6 l7 (l8.map ruleOf) := by
  obtain ⟨⟨h1, h2⟩, h3, h4, h5, h6, h7, h8⟩ := h
  refine ⟨⟨by simpa using h1, fun x hx => ?_⟩, h3, h4, h5, h6, h7, by simpa using h8⟩
  obtain ⟨y, hy, rfl⟩ := List.mem_map.1 hx
  simpa using h2 y hy
theorem szConf_ev (a0 a1 : Int) (l2 : LOps) (l3 l4 l5 l6 l7 : List Int) (l8 : List S80) (a9 : Int) (h2 : l2.length ≤ 9223372036854775807) (hi : ∀ x ∈ l2, x.length ≤ 9223372036854775807)
    (h3 : l3.length ≤ 9223372036854775807) (h4 : l4.length ≤ 9223372036854775807) (h5 : l5.length ≤ 9223372036854775807) (h6 : l6.length ≤ 9223372036854775807) (h7 : l7.length ≤ 9223372036854775807) (h8 : l8.length ≤ 9223372036854775807) :
    ∃ m, Ev (fun k => laws_szConf.f k a0 a1 l2 l3 l4 l5 l6 l7 l8 a9 1048576) m ∧ (0 ≤ m → Small l2 l3 l4 l5 l6 l7 l8) := by
  unfold laws_szConf.f
  obtain ⟨m, hm, hle, hs⟩ := szOpSS_ev l2 1048576 (by omega) (by omega) h2 hi
  have no : ∀ {P : Prop}, (0 : Int) ≤ -1 → P := fun h => absurd h (by omega)
  by_cases c2 : m < 0
  · exact ⟨-1, Ev.bind hm (Ev.iteT c2 (Ev.now _)), no⟩
  have z3 := szIntS_at l3 m (by omega) hle h3
  by_cases c3 : m - (l3.length : Int) < 0
  · rw [if_pos c3] at z3
    exact ⟨-1, Ev.bind hm (Ev.iteF c2 (Ev.bindc z3 (Ev.iteT (by omega) (Ev.now _)))), no⟩
  rw [if_neg c3] at z3
  have z4 := szIntS_at l4 (m - (l3.length : Int)) (by omega) (by omega) h4
  by_cases c4 : m - (l3.length : Int) - (l4.length : Int) < 0
  · rw [if_pos c4] at z4
    exact ⟨-1, Ev.bind hm (Ev.iteF c2 (Ev.bindc z3 (Ev.iteF c3 (Ev.bindc z4 (Ev.iteT (by omega) (Ev.now _)))))), no⟩
  rw [if_neg c4] at z4
  have z5 := szIntS_at l5 (m - (l3.length : Int) - (l4.length : Int)) (by omega) (by omega) h5
  by_cases c5 : m - (l3.length : Int) - (l4.length : Int) - (l5.length : Int) < 0
  · rw [if_pos c5] at z5
    exact ⟨-1, Ev.bind hm (Ev.iteF c2 (Ev.bindc z3 (Ev.iteF c3 (Ev.bindc z4 (Ev.iteF c4 (Ev.bindc z5 (Ev.iteT (by omega) (Ev.now _)))))))), no⟩
  rw [if_neg c5] at z5
  have z6 := szIntS_at l6 (m - (l3.length : Int) - (l4.length : Int) - (l5.length : Int)) (by omega) (by omega) h6
  by_cases c6 : m - (l3.length : Int) - (l4.length : Int) - (l5.length : Int) - (l6.length : Int) < 0
  · rw [if_pos c6] at z6
    exact ⟨-1, Ev.bind hm (Ev.iteF c2 (Ev.bindc z3 (Ev.iteF c3 (Ev.bindc z4 (Ev.iteF c4 (Ev.bindc z5 (Ev.iteF c5 (Ev.bindc z6 (Ev.iteT (by omega) (Ev.now _)))))))))), no⟩
  rw [if_neg c6] at z6
  have z7 := szIntS_at l7 (m - (l3.length : Int) - (l4.length : Int) - (l5.length : Int) - (l6.length : Int)) (by omega) (by omega) h7
  by_cases c7 : m - (l3.length : Int) - (l4.length : Int) - (l5.length : Int) - (l6.length : Int) - (l7.length : Int) < 0
  · rw [if_pos c7] at z7
    exact ⟨-1, Ev.bind hm (Ev.iteF c2 (Ev.bindc z3 (Ev.iteF c3 (Ev.bindc z4 (Ev.iteF c4 (Ev.bindc z5 (Ev.iteF c5 (Ev.bindc z6 (Ev.iteF c6 (Ev.bindc z7 (Ev.iteT (by omega) (Ev.now _)))))))))))), no⟩
  rw [if_neg c7] at z7
  have z8 := szRuleS_at l8 (m - (l3.length : Int) - (l4.length : Int) - (l5.length : Int) - (l6.length : Int) - (l7.length : Int)) (by omega) (by omega) h8
  by_cases c8 : m - (l3.length : Int) - (l4.length : Int) - (l5.length : Int) - (l6.length : Int) - (l7.length : Int) - (l8.length : Int) < 0
  · rw [if_pos c8] at z8
    exact ⟨-1, Ev.bind hm (Ev.iteF c2 (Ev.bindc z3 (Ev.iteF c3 (Ev.bindc z4 (Ev.iteF c4 (Ev.bindc z5 (Ev.iteF c5 (Ev.bindc z6 (Ev.iteF c6 (Ev.bindc z7 (Ev.iteF c7 (Ev.bindc z8 (Ev.iteT (by omega) (Ev.now _)))))))))))))), no⟩
  rw [if_neg c8] at z8
  exact ⟨_, Ev.bind hm (Ev.iteF c2 (Ev.bindc z3 (Ev.iteF c3 (Ev.bindc z4 (Ev.iteF c4 (Ev.bindc z5 (Ev.iteF c5 (Ev.bindc z6 (Ev.iteF c6 (Ev.bindc z7 (Ev.iteF c7 (Ev.bindc z8 (Ev.iteF c8 (Ev.now _)))))))))))))), fun _ => ⟨hs (by omega), by omega, by omega, by omega, by omega, by omega, by omega⟩⟩
theorem toConf_ev (a0 a1 : Int) (l2 : LOps) (l3 l4 l5 l6 l7 : List Int) (l8 : List S80) (a9 : Int) (h : Small l2 l3 l4 l5 l6 l7 l8) :
    Ev (fun k => laws_toConf.f k a0 a1 l2 l3 l4 l5 l6 l7 l8 a9) (a0, a1, l2.map (List.map opOf), l3, l4, l5, l6, l7, l8.map ruleOf, a9) := by
  obtain ⟨⟨h1, h2⟩, h3, h4, h5, h6, h7, h8⟩ := h
  unfold laws_toConf.f
  exact Ev.bind (toOpSS_ev l2 h1 h2) (Ev.bind (toIntS_ev l3 h3) (Ev.bind (toIntS_ev l4 h4) (Ev.bind (toIntS_ev l5 h5) (Ev.bind (toIntS_ev l6 h6) (Ev.bind (toIntS_ev l7 h7) (Ev.bind (toRuleS_ev l8 h8) (Ev.now _)))))))
theorem eqConf_ev (a0 a1 : Int) (l2 : IOps) (l3 l4 l5 l6 l7 : List Int) (l8 : List S78) (a9 : Int) (h : Small l2 l3 l4 l5 l6 l7 l8) :
    Ev (fun k => laws_eqConf.f k a0 a1 l2 l3 l4 l5 l6 l7 l8 a9 a0 a1 l2 l3 l4 l5 l6 l7 l8 a9) true := by
  obtain ⟨⟨h1, h2⟩, h3, h4, h5, h6, h7, h8⟩ := h
  have eqI : ∀ l : List Int, l.length ≤ 1048576 → Ev (fun k => laws_eqIntS.f k l l) true := fun l hl => Ev.eq (eqIntS_ev l l (by omega)) (by simp)
  unfold laws_eqConf.f
  exact Ev.iteT rfl (Ev.iteT rfl (Ev.bind (eqOpSS_ev l2 h1 h2) (Ev.iteT rfl (Ev.bind (eqI l3 h3) (Ev.iteT rfl (Ev.bind (eqI l4 h4) (Ev.iteT rfl (Ev.bind (eqI l5 h5) (Ev.iteT rfl (Ev.bind (eqI l6 h6) (Ev.iteT rfl (Ev.bind (eqI l7 h7) (Ev.iteT rfl (Ev.bind (eqRuleS_ev l8 h8) (Ev.iteT rfl (Ev.iteT rfl (Ev.now _)))))))))))))))))
end Go.Proofs.YtcenmlpfbpogoaaDoor.Conf
