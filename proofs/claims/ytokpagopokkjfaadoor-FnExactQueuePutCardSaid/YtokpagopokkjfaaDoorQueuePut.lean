/- A packet that comes to wait, in plain Lean: the program's and the reference's are one. No conditions. -/
import Derived.Test.YtokpagopokkjfaaDoorPx6
import Derived.Test.YtokpagopokkjfaaDoorPx7
import Derived.Test.YtokpagopokkjfaaDoorPx9
import Derived.Test.YtokpagopokkjfaaDoorPx12
import Derived.Test.YtokpagopokkjfaaDoorPx13
import Derived.Test.YtokpagopokkjfaaDoorQueueOk
import Derived.Test.YtokpagopokkjfaaDoorMarkStr
namespace Go.Proofs.YtokpagopokkjfaaDoor.Queue
open Go.RowKit Go.Proofs.YtokpagopokkjfaaDoor.P Go.Proofs.YtokpagopokkjfaaDoor.E Go.Proofs.YtokpagopokkjfaaDoor.Num Go.Proofs.YtokpagopokkjfaaDoor.In Go.Proofs.YtokpagopokkjfaaDoor.Packet Go.Proofs.YtokpagopokkjfaaDoor.Lists Go.Proofs.YtokpagopokkjfaaDoorW.PrintWords
set_option linter.unusedSimpArgs false
set_option linter.unusedVariables false
abbrev PutR := List ByteArray × Int × Bool
def putR (l : List ByteArray) (n : Int) (x : ByteArray) : PutR :=
  if queueB l n = true then (if (decide (l.length < 8) && packB x) = true then (l ++ [x], n, true) else (l, n, false)) else ([], 0, false)
theorem putR_no {l : List ByteArray} {n : Int} {x : ByteArray} (h : ¬ queueB l n = true) : putR l n x = ([], 0, false) := by unfold putR; rw [if_neg h]
theorem putR_yes {l : List ByteArray} {n : Int} {x : ByteArray} (h : queueB l n = true) (h2 : l.length < 8) (h3 : packB x = true) : putR l n x = (l ++ [x], n, true) := by unfold putR; rw [if_pos h, decide_eq_true h2, h3]; rfl
theorem putR_keep {l : List ByteArray} {n : Int} {x : ByteArray} (h : queueB l n = true) (h2 : ¬ (l.length < 8 ∧ packB x = true)) : putR l n x = (l, n, false) := by
  unfold putR
  rw [if_pos h, if_neg (by rw [Bool.and_eq_true, decide_eq_true_eq]; exact h2)]
theorem queueB_len {l : List ByteArray} {n : Int} (h : queueB l n = true) : l.length ≤ 9 := by
  unfold queueB at h
  rw [Bool.and_eq_true, decide_eq_true_eq] at h
  exact h.1
theorem copy_at (l : List ByteArray) (n : Int) (hl : l.length ≤ 1048577) : impl_queueCopy.f l n = some (l, n) := by
  unfold impl_queueCopy.f slices_Clone_string_string.f
  simp only [Option.bind_some, List.length_nil, List.nil_append, Nat.zero_add]
  rw [if_pos (by omega)]
  rfl
theorem specCopy_at (l : List ByteArray) (n : Int) (hl : l.length ≤ 1048577) : spec_l12Copy.f l n = some (l, n) := by
  unfold spec_l12Copy.f
  simp only [Option.bind_some, List.length_nil, List.nil_append, Nat.zero_add]
  rw [if_pos (by omega)]
theorem implPut_ev (l : List ByteArray) (n : Int) (x : ByteArray) (hs : Short l) (hx : x.size ≤ 1048577) : Ev (fun k => impl_QueuePut.f k l n x) (putR l n x) := by
  unfold impl_QueuePut.f
  have hl := hs.1
  have cp : impl_QueuePut.c l n = some (l, n, false) := by unfold impl_QueuePut.c; rw [copy_at l n (by omega)]; rfl
  refine Ev.bind (implOk_ev l n hs) ?_
  by_cases h : queueB l n = true
  · have h9 := queueB_len h
    obtain ⟨p, ep, hp⟩ := packetOnly_ev x (by omega)
    refine Ev.iteT h (Ev.iteT (by omega) (Ev.bind ep ?_))
    by_cases h3 : packB x = true
    · refine Ev.iteT (by rw [hp]; exact h3) ?_
      by_cases h2 : l.length < 8
      · rw [putR_yes h h2 h3]
        exact Ev.iteT (by omega) (Ev.now _)
      · rw [putR_keep h (fun x => h2 x.1)]
        exact Ev.iteF (by omega) (Ev.const cp)
    · rw [putR_keep h (fun x => h3 x.2)]
      exact Ev.iteF (by rw [hp]; exact h3) (Ev.const cp)
  · rw [putR_no h]
    exact Ev.iteF h (Ev.now _)
theorem specPut_ev (l : List ByteArray) (n : Int) (x : ByteArray) (hs : Short l) (hx : x.size ≤ 1048577) : Ev (fun k => spec_QueuePut.f k l n x) (putR l n x) := by
  unfold spec_QueuePut.f
  have hl := hs.1
  refine Ev.bind (specOk_ev l n hs) ?_
  by_cases h : queueB l n = true
  · refine Ev.iteT h (Ev.bindc (specCopy_at l n (by omega)) (Ev.bind (l12Pack_ev x (by omega)) ?_))
    by_cases h3 : packB x = true
    · refine Ev.iteT h3 ?_
      by_cases h2 : l.length < 8
      · rw [putR_yes h h2 h3]
        refine Ev.iteF (by omega) ?_
        exact Ev.iteT (show l.length < 8796093022208 by omega) (Ev.now _)
      · rw [putR_keep h (fun x => h2 x.1)]
        exact Ev.iteT (by omega) (Ev.now _)
    · rw [putR_keep h (fun x => h3 x.2)]
      exact Ev.iteF h3 (Ev.now _)
  · rw [putR_no h]
    exact Ev.iteF h (Ev.now _)
theorem putR_short (l : List ByteArray) (n : Int) (x : ByteArray) : (putR l n x).1.length ≤ l.length + 1 := by
  unfold putR
  split
  · split
    · simp
    · exact Nat.le_succ _
  · exact Nat.zero_le _
theorem eqSame_ev (l : List ByteArray) (n : Int) (hl : l.length ≤ 9223372036854775806) : Ev (fun k => laws_eqQueue.f k l n l n) true := Ev.eq (eqQueue_ev l l n n hl) (by simp)
theorem markQueue_ev (l : List ByteArray) (n m : Int) (h0 : 0 ≤ m) (h1 : m ≤ 1000000000000) (hl : l.length ≤ 1048577) : Ev (fun k => laws_markQueue.f k l n m) (m + l.length, mkStr m l.length) := by
  unfold laws_markQueue.f
  exact Ev.bind (markStringS_ev l m h0 h1 hl) (Ev.now _)
theorem heldQueue_ev (j : Nat) (n m : Int) (h0 : 0 ≤ m) (h1 : m ≤ 1000000000000) (hl : j ≤ 1048577) : Ev (fun k => laws_heldQueue.f k (mkStr m j) n m) (m + j) := by
  unfold laws_heldQueue.f
  exact Ev.bind (heldStringS_ev j m h0 h1 hl) (Ev.iteF (by omega) (Ev.now _))
theorem szQueue_any (l : List ByteArray) (n : Int) (hl : l.length ≤ 9223372036854775807) (hs : ∀ s ∈ l, s.size ≤ 9223372036854775807) : ∃ r, Ev (fun k => laws_szQueue.f k l n 1048576) r ∧ (0 ≤ r → Short l) := by
  by_cases hl2 : l.length ≤ 9223372036854775806
  · exact szQueue_ev l n hl2 hs
  · refine ⟨-1, ?_, fun h => absurd h (by omega)⟩
    unfold laws_szQueue.f laws_szStringS.f
    have e1 : Ev (fun k => if (wrap64 (1048576 - (l.length : Int))) < 0 then some (-1) else laws_szStringS.l0 k l (wrap64 (1048576 - (l.length : Int))) 0) (-1) := Ev.iteT (by rw [wrap64_id (by omega) (by omega)]; omega) (Ev.now _)
    exact Ev.bind e1 (Ev.iteT (by omega) (Ev.now _))
end Go.Proofs.YtokpagopokkjfaaDoor.Queue
