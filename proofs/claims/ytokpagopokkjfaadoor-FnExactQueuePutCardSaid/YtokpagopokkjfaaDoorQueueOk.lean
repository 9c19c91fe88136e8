/- A queue that is ok, in plain Lean: the program's and the reference's are one. No conditions. -/
import Derived.Test.YtokpagopokkjfaaDoorPx2
import Derived.Test.YtokpagopokkjfaaDoorPx3
import Derived.Test.YtokpagopokkjfaaDoorPx5
import Derived.Test.YtokpagopokkjfaaDoorPx9
import Derived.Test.YtokpagopokkjfaaDoorPacketGet
import Derived.Test.YtokpagopokkjfaaDoorListStr
namespace Go.Proofs.YtokpagopokkjfaaDoor.Queue
open Go.RowKit Go.Proofs.YtokpagopokkjfaaDoor.P Go.Proofs.YtokpagopokkjfaaDoor.E Go.Proofs.YtokpagopokkjfaaDoor.Num Go.Proofs.YtokpagopokkjfaaDoor.In Go.Proofs.YtokpagopokkjfaaDoor.Packet Go.Proofs.YtokpagopokkjfaaDoor.Lists Go.Proofs.YtokpagopokkjfaaDoorW.PrintWords
set_option linter.unusedSimpArgs false
set_option linter.unusedVariables false
/-- Is a text just a packet? -/
def packB (s : ByteArray) : Bool := decide ((packetGet s 0).2.2.2.2 ≠ 0 ∧ (packetGet s 0).2.2.2.2 = (s.size : Int))
def tailB (l : List ByteArray) (n : Int) : Bool := if n = 0 then true else if l.length = 0 then false else inB n 0 ((((l.getD 0 ByteArray.empty).size : Nat) : Int) - 1)
def queueB (l : List ByteArray) (n : Int) : Bool := decide (l.length ≤ 9) && (l.all packB && tailB l n)
theorem tailB_zero {l : List ByteArray} {n : Int} (h : n = 0) : tailB l n = true := by unfold tailB; rw [if_pos h]
theorem tailB_nil {l : List ByteArray} {n : Int} (h : ¬ n = 0) (h1 : l.length = 0) : tailB l n = false := by unfold tailB; rw [if_neg h, if_pos h1]
theorem tailB_in {l : List ByteArray} {n : Int} (h : ¬ n = 0) (h1 : ¬ l.length = 0) : tailB l n = inB n 0 ((((l.getD 0 ByteArray.empty).size : Nat) : Int) - 1) := by unfold tailB; rw [if_neg h, if_neg h1]
theorem packetGet_n0 (t : ByteArray) : 0 ≤ (packetGet t 0).2.2.2.2 := by
  show 0 ≤ (packetAt t 0).2.2.2.2
  unfold packetAt
  split
  · exact Int.natCast_nonneg _
  · exact Int.le_refl _
theorem packetOnly_ev (s : ByteArray) (hs : s.size ≤ 140737488355328) : ∃ x, Ev (fun k => impl_packetOnly.f k s) x ∧ x.2.2.2.2 = packB s := by
  have hp := Packet.implGet_ev s 0 hs
  unfold impl_packetOnly.f packB
  generalize packetGet s 0 = p at hp ⊢
  by_cases h0 : p.2.2.2.2 = 0
  · exact ⟨_, Ev.bind hp (Ev.iteT h0 (Ev.now _)), by simp [h0]⟩
  · by_cases h1 : p.2.2.2.2 = (s.size : Int)
    · refine ⟨_, Ev.bind hp (Ev.iteF h0 (Ev.iteT h1 (Ev.now _))), ?_⟩
      show true = _
      rw [decide_eq_true ⟨h0, h1⟩]
    · refine ⟨_, Ev.bind hp (Ev.iteF h0 (Ev.iteF h1 (Ev.now _))), ?_⟩
      show false = _
      rw [decide_eq_false (fun x => h1 x.2)]
theorem l12Pack_ev (s : ByteArray) (hs : s.size ≤ 140737488355328) : Ev (fun k => spec_l12Pack.f k s) (packB s) := by
  have hp := Packet.specGet_ev s 0 (by omega) (by omega) (by omega)
  have hn := packetGet_n0 s
  unfold spec_l12Pack.f packB
  refine Ev.bind hp ?_
  generalize packetGet s 0 = p at hn ⊢
  by_cases h0 : p.2.2.2.2 = 0
  · refine Ev.iteF (by omega) (Ev.eq (Ev.now _) ?_)
    rw [decide_eq_false (fun x => x.1 h0)]
  · refine Ev.iteT (by omega) (Ev.eq (Ev.now _) ?_)
    by_cases h1 : p.2.2.2.2 = (s.size : Int)
    · rw [decide_eq_true ⟨h0, h1⟩, beq_iff_eq]; exact h1
    · rw [decide_eq_false (fun x => h1 x.2), beq_eq_false_iff_ne]; exact h1
theorem rdS (l : List ByteArray) (i : Nat) : rdOf ByteArray.empty l (i : Int) = l.getD i ByteArray.empty := by unfold rdOf; rw [Int.toNat_natCast]
theorem getD_short {l : List ByteArray} (h : Short l) (i : Nat) : (l.getD i ByteArray.empty).size ≤ 1048576 := by
  rw [List.getD_eq_getElem?_getD]
  cases e : l[i]? with
  | none => exact Nat.zero_le _
  | some x => exact h.2 x (List.mem_of_getElem? e)
theorem packed_size {l : List ByteArray} (i : Nat) (h : l.all packB = true) (hi : i < l.length) : 1 ≤ (l.getD i ByteArray.empty).size := by
  rw [List.getD_eq_getElem?_getD, List.getElem?_eq_getElem hi]
  have h1 := (List.all_eq_true.1 h) _ (List.getElem_mem hi)
  have h2 := of_decide_eq_true h1
  rw [h2.2] at h2
  show 1 ≤ l[i].size
  omega
theorem implLoop (l : List ByteArray) (n : Int) (hs : Short l) : ∀ (d i : Nat), i + d = l.length → Ev (fun k => impl_QueueOk.l0 k l (l.length : Int) (i : Int) l n) ((l.drop i).all packB && tailB l n) := by
  have hl := hs.1
  intro d
  induction d with
  | zero =>
    intro i hi
    rw [List.drop_of_length_le (by omega)]
    refine Ev.step (fun k => by rw [impl_QueueOk.l0]) (Ev.iteF (by omega) ?_)
    rw [List.all_nil, Bool.true_and]
    by_cases h0 : n = 0
    · rw [tailB_zero h0]
      exact Ev.iteT h0 (Ev.now _)
    · refine Ev.iteF h0 ?_
      by_cases h1 : l.length = 0
      · rw [tailB_nil h0 h1]
        exact Ev.iteF (by omega) (Ev.now _)
      · rw [tailB_in h0 h1]
        refine Ev.iteT (by omega) (Ev.iteT (by omega) ?_)
        have := getD_short hs 0
        have e : rdOf ByteArray.empty l 0 = l.getD 0 ByteArray.empty := rfl
        rw [e, wrap64_id (by omega) (by omega)]
        exact Ev.bindc (within_at _ _) (Ev.now _)
  | succ d ih =>
    intro i hi
    have hlt : i < l.length := by omega
    rw [List.drop_eq_getElem_cons hlt, List.all_cons]
    refine Ev.step (fun k => by rw [impl_QueueOk.l0]) (Ev.iteT (by omega) (Ev.iteT (by omega) (Ev.iteT (by omega) ?_)))
    have e : rdOf ByteArray.empty l (i : Int) = l[i] := by rw [rdS, List.getD_eq_getElem?_getD, List.getElem?_eq_getElem hlt]; rfl
    have hb := hs.2 _ (List.getElem_mem hlt)
    rw [e, wrap_succ (by omega)]
    obtain ⟨x, ex, hx⟩ := packetOnly_ev l[i] (by omega)
    refine Ev.bind ex ?_
    rw [← hx]
    by_cases h : x.2.2.2.2 = true
    · rw [h, Bool.true_and]
      exact Ev.iteT rfl (ih (i + 1) (by omega))
    · rw [Bool.not_eq_true] at h
      rw [h]
      exact Ev.iteF (by simp) (Ev.now _)
theorem implOk_ev (l : List ByteArray) (n : Int) (hs : Short l) : Ev (fun k => impl_QueueOk.f k l n) (queueB l n) := by
  unfold impl_QueueOk.f queueB
  by_cases h : l.length ≤ 9
  · rw [decide_eq_true h, Bool.true_and]
    exact Ev.iteF (by omega) (implLoop l n hs l.length 0 (by omega))
  · rw [decide_eq_false h, Bool.false_and]
    exact Ev.iteT (by omega) (Ev.now _)
theorem specTail (l : List ByteArray) (n : Int) (hs : Short l) (hp : l.all packB = true) : Ev (fun k => if (l.length : Int) = 0 then some (n == 0) else if (l.length : Int) ≤ 9 then (if 0 < (l.length : Int) then (spec_l1In.f n 0 (wrap64 (((rdOf ByteArray.empty l 0).size : Int) - 1))).bind fun t => some t else none) else some false) (decide (l.length ≤ 9) && tailB l n) := by
  by_cases h1 : l.length = 0
  · rw [decide_eq_true (show l.length ≤ 9 by omega), Bool.true_and]
    refine Ev.iteT (by omega) (Ev.eq (Ev.now _) ?_)
    by_cases h0 : n = 0
    · rw [tailB_zero h0, beq_iff_eq]; exact h0
    · rw [tailB_nil h0 h1, beq_eq_false_iff_ne]; exact h0
  · refine Ev.iteF (by omega) ?_
    by_cases h9 : l.length ≤ 9
    · rw [decide_eq_true h9, Bool.true_and]
      refine Ev.iteT (by omega) (Ev.iteT (by omega) ?_)
      have := getD_short hs 0
      have h1' := packed_size 0 hp (by omega)
      have e : rdOf ByteArray.empty l 0 = l.getD 0 ByteArray.empty := rfl
      rw [e, wrap64_id (by omega) (by omega)]
      refine Ev.bindc (l1In_at _ _ _) (Ev.eq (Ev.now _) ?_)
      by_cases h0 : n = 0
      · rw [tailB_zero h0, h0, inB_true]; omega
      · rw [tailB_in h0 h1]
    · rw [decide_eq_false h9, Bool.false_and]
      exact Ev.iteF (by omega) (Ev.now _)
theorem specLoop (l : List ByteArray) (n : Int) (hs : Short l) : ∀ (d i : Nat), i + d = l.length → (l.take i).all packB = true → Ev (fun k => spec_QueueOk.l0 k (i : Int) l n) ((l.drop i).all packB && (decide (l.length ≤ 9) && tailB l n)) := by
  have hl := hs.1
  intro d
  induction d with
  | zero =>
    intro i hi ha
    rw [List.take_of_length_le (by omega)] at ha
    rw [List.drop_of_length_le (by omega), List.all_nil, Bool.true_and]
    refine Ev.step (fun k => by rw [spec_QueueOk.l0]) (Ev.iteF (by omega) ?_)
    exact specTail l n hs ha
  | succ d ih =>
    intro i hi ha
    have hlt : i < l.length := by omega
    rw [List.drop_eq_getElem_cons hlt, List.all_cons]
    refine Ev.step (fun k => by rw [spec_QueueOk.l0]) (Ev.iteT (by omega) (Ev.iteT (by omega) ?_))
    have e : rdOf ByteArray.empty l (i : Int) = l[i] := by rw [rdS, List.getD_eq_getElem?_getD, List.getElem?_eq_getElem hlt]; rfl
    have hb := hs.2 _ (List.getElem_mem hlt)
    rw [e, wrap_succ (by omega)]
    refine Ev.bind (l12Pack_ev l[i] (by omega)) ?_
    by_cases h : packB l[i] = true
    · rw [h, Bool.true_and]
      exact Ev.iteT rfl (ih (i + 1) (by omega) (by rw [List.take_succ_eq_append_getElem hlt, List.all_append, ha]; simp [h]))
    · rw [Bool.not_eq_true] at h
      rw [h]
      exact Ev.iteF (by simp) (Ev.now _)
theorem specOk_ev (l : List ByteArray) (n : Int) (hs : Short l) : Ev (fun k => spec_QueueOk.f k l n) (queueB l n) := by
  unfold spec_QueueOk.f
  refine Ev.eq (specLoop l n hs l.length 0 (by omega) rfl) ?_
  unfold queueB
  rw [List.drop_zero]
  cases l.all packB <;> simp
theorem toQueue_ev (l : List ByteArray) (n : Int) (hs : Short l) : Ev (fun k => laws_toQueue.f k l n) (l, n) := by
  unfold laws_toQueue.f
  exact Ev.bind (toStringS_ev l hs.1) (Ev.now _)
theorem eqQueue_ev (l m : List ByteArray) (n o : Int) (hl : l.length ≤ 9223372036854775806) : Ev (fun k => laws_eqQueue.f k l n m o) (decide (l = m) && decide (n = o)) := by
  unfold laws_eqQueue.f
  refine Ev.bind (eqStringS_ev l m hl) ?_
  by_cases h : l = m
  · rw [decide_eq_true h, Bool.true_and]
    refine Ev.iteT rfl ?_
    by_cases h2 : n = o
    · rw [decide_eq_true h2]; exact Ev.iteT h2 (Ev.now _)
    · rw [decide_eq_false h2]; exact Ev.iteF h2 (Ev.now _)
  · rw [decide_eq_false h, Bool.false_and]
    exact Ev.iteF (by simp) (Ev.now _)
theorem szQueue_ev (l : List ByteArray) (n : Int) (hl : l.length ≤ 9223372036854775806) (hs : ∀ s ∈ l, s.size ≤ 9223372036854775807) : ∃ r, Ev (fun k => laws_szQueue.f k l n 1048576) r ∧ (0 ≤ r → Short l) := by
  unfold laws_szQueue.f
  obtain ⟨r, er, _, hr⟩ := szStringS_ev l 1048576 (by omega) (by omega) hl hs
  by_cases h : r < 0
  · exact ⟨-1, Ev.bind er (Ev.iteT h (Ev.now _)), fun h => absurd h (by omega)⟩
  · exact ⟨r, Ev.bind er (Ev.iteF h (Ev.now _)), hr⟩
end Go.Proofs.YtokpagopokkjfaaDoor.Queue
