/- The machine side of these statements, function by function: what each Go function answers (as a Lean function), and that it does. Written by a program (mp.py) for this claim. -/
import Derived.Test.YtokpagopokkjfaaDoorPx0
import Derived.Test.YtokpagopokkjfaaDoorPx1
import Derived.Test.YtokpagopokkjfaaDoorPx3
import Derived.Test.YtokpagopokkjfaaDoorPx4
namespace Go.Proofs.YtokpagopokkjfaaDoor.P
open Go.RowKit Go.Proofs.YtokpagopokkjfaaDoorW.PrintWords Go.Proofs.YtokpagopokkjfaaDoorW.PrintLast Go.Proofs.YtokpagopokkjfaaDoorW.PrintMore
attribute [local go_sem] max2_int min2_int max_two min_two max_three min_three max_four min_four   -- for this text's walks alone
set_option linter.unusedVariables false
set_option linter.unusedSimpArgs false

/-! ### impl_PacketPut: function 63 -/
/-- append([]byte, s...), s a string, as a step of a region that draws its order. -/
theorem append_str_step {P : Program} {ops : Array Oper} {o : Oper} {a : Act} {Q : Exit → Act → World → Prop} {K : Act → World → Prop} {W : World} (base : Nat) (hw : Region.wanted o (yielded ops a.tmps) = true) (s x : Operand) (t u e : TypeId)
    (ho : o.op = .call { callee := .builtin .append, args := #[s, x], argTypes := #[t, u] })
    (ht : P.underlying t = some (.slice e)) (hu : P.underlying u = some .string) (hinfo : (P.info? e).map (fun i => (i.zero, i.size, i.bytes)) = some (some (.int .u8 0), 1, 1))
    (v : Value) (xs : List Int) (y : ByteArray) (hs : a.eval s = v) (hx : a.eval x = .string y)
    (HO : W.ownsRow base e 1 v xs.length (nums .u8 xs)) (hl : xs.length + y.size ≤ 140737488355328) (hbase : base ≤ W.heap.size := by exact Nat.le_refl _)
    (h : ∀ v1 w1, w1.ownsRow base e 1 v1 (xs ++ bytesOf y).length (nums .u8 (xs ++ bytesOf y)) → W.grownBy w1 v.ownBlock → K (a.put o.dst v1) w1) :
    if Region.wanted o (yielded ops a.tmps) = true then Oper.wp P o a W K Q else K (a.put o.dst undef) W := by
  rw [if_pos hw]
  obtain ⟨i0, hi, hzz⟩ := Option.map_eq_some_iff.1 hinfo
  simp only [Prod.mk.injEq] at hzz
  obtain ⟨hz0, hz1, hz2⟩ := hzz
  obtain ⟨v', w', hr, h2, h3, h4⟩ := Lib.run_append_own_string (P := P) W base t u o.type e i0 ht hu hi hz0 hz1 hz2 v xs.length (nums .u8 xs) HO y (by simp only [maxLen]; omega) hl hbase
  unfold Oper.wp execOp
  simp only [ho, resolve, invoke, builtin, Sem.run_bind, Sem.run_pure, Result.andThen_ok, List.map_toArray, List.map_cons, List.map_nil, hs, hx, hr]
  refine h _ _ ?_ h3
  have hl2 : (xs ++ bytesOf y).length = xs.length + y.size := by rw [List.length_append, bytesOf_length]
  have hc : nums .u8 (xs ++ bytesOf y) = nums .u8 xs ++ Lib.strCells y := by
    simp [nums, bytesOf, Lib.strCells]
  rw [hl2, hc]
  exact h2
theorem row_slice {w : World} {base n : Nat} {e : TypeId} {size : Nat} {v : Value} {xs : List Value} (h : w.ownsRow base e size v n xs) : ∃ A c, v = .slice A n c := by
  rcases h.2 with ⟨rfl, rfl⟩ | ⟨g, cap, cur, rfl, _⟩
  · exact ⟨_, _, rfl⟩
  · exact ⟨_, _, rfl⟩
theorem keep_row {W w1 : World} {v u : Value} {base e n size g j : Nat} {cs : List Value} (hg : W.grownBy w1 v.ownBlock) (ho : W.ownsRow base e size v n cs) (hb : g < base) (hlt : g < W.heap.size) (hc : W.cell? ⟨g, j, none⟩ = some u) : w1.cell? ⟨g, j, none⟩ = some u := by
  have : w1.heap[g]? = W.heap[g]? := hg.block g hlt (fun e => by have := own_base ho g e.symm; omega)
  rw [World.cell?_of_block (w := W) this]
  exact hc
/-- The writer's variable at block g: what was written so far is xs; whatever lay ahead of it lies as it did. -/
def Wr (Wg W : World) (g : Nat) (xs : List Int) : Prop := ∃ v, W.heap[g]? = some (.cells #[v] 124 (0, 0)) ∧ W.ownsRow (g + 1) 5 1 v xs.length (nums .u8 xs) ∧ Below g Wg W
theorem info5_ : (Tryd.prog.info? 5).map (fun i => (i.zero, i.size, i.bytes)) = some (some (.int .u8 0), 1, 1) := by kernel_rfl
set_option maxHeartbeats 8000000 in
set_option maxRecDepth 100000 in
theorem w_number (k g : Nat) (n s : Int) (r : ByteArray) (xs : List Int) (Wg W : World) (hW : Wr Wg W g xs) (hn0 : impl_NumPut.f k n s = some r) (hlen : xs.length + r.size ≤ 140737488355328) :
    Calls Tryd.prog 87 #[.pointer (some ⟨g, 0, none⟩), .int .i64 n, .int .i64 s] W fun e w' => e = .returned (.tuple #[]) ∧ Wr Wg w' g (xs ++ bytesOf r) := by
  obtain ⟨v, hblk, ho, HB⟩ := hW
  have hn := Aside0.mk hn0
  clear hn0
  have hlt := blk_lt hblk
  have hbk : g < g + 1 := by omega
  have hc0 : W.drew.cell? ⟨g, 0, none⟩ = some v := (cell_of_row _ _ _ _ _ _ hblk).trans rfl
  go_enter Tryd.func87, Tryd.ntmps87
  go_wp2_with fail
  refine start_ (n := 10) (S := fun w' => w'.cell? ⟨g, 0, none⟩ = some v) (ds := [9]) #[false, false, false, false, false, false, false, false, false, false] (by kernel_rfl) rfl rfl (hc0) (fun hHeld => ?_)
  refine pure_ (i := 0) (N := some 6) (v := ?_) (a' := ?_) #[true, false, false, false, false, false, false, false, false, false] rfl rfl (by kernel_rfl) (fun _ _ _ h => h) (Or.inl ⟨by rfl, ?_⟩) ?_ ?_
  rotate_left
  · intro w'
    go_simp
    with_reducible rfl
  rotate_left
  · simp only [Act.put, List.setIfInBounds_toArray, List.set_cons_zero, List.set_cons_succ, i64_w, i32_w]
    rfl
  refine pure_ (i := 1) (N := some 7) (v := ?_) (a' := ?_) #[true, true, false, false, false, false, false, false, false, false] rfl rfl (by kernel_rfl) (fun _ _ _ h => h) (Or.inl ⟨by rfl, ?_⟩) ?_ ?_
  rotate_left
  · intro w'
    go_simp
    with_reducible rfl
  rotate_left
  · simp only [Act.put, List.setIfInBounds_toArray, List.set_cons_zero, List.set_cons_succ, i64_w, i32_w]
    rfl
  refine pure_ (i := 2) (N := some 8) (v := ?_) (a' := ?_) #[true, true, true, false, false, false, false, false, false, false] rfl rfl (by kernel_rfl) (fun _ _ _ h => h) (Or.inl ⟨by rfl, ?_⟩) ?_ ?_
  rotate_left
  · intro w'
    go_simp
    with_reducible rfl
  rotate_left
  · simp only [Act.put, List.setIfInBounds_toArray, List.set_cons_zero, List.set_cons_succ, i64_w, i32_w]
    rfl
  refine pure_ (i := 4) (N := some 10) (v := ?_) (a' := ?_) #[true, true, true, false, true, false, false, false, false, false] rfl rfl (by kernel_rfl) (fun _ _ _ h => h) (Or.inl ⟨by rfl, ?_⟩) ?_ ?_
  rotate_left
  · intro w'
    go_simp
    with_reducible rfl
  rotate_left
  · simp only [Act.put, List.setIfInBounds_toArray, List.set_cons_zero, List.set_cons_succ, i64_w, i32_w]
    rfl
  refine pure_ (i := 5) (N := some 11) (v := ?_) (a' := ?_) #[true, true, true, false, true, true, false, false, false, false] rfl rfl (by kernel_rfl) (fun _ _ _ h => h) (Or.inl ⟨by rfl, ?_⟩) ?_ ?_
  rotate_left
  · intro w'
    go_simp
    with_reducible rfl
  rotate_left
  · simp only [Act.put, List.setIfInBounds_toArray, List.set_cons_zero, List.set_cons_succ, i64_w, i32_w]
    rfl
  refine take_ (i := 3) (N := some 9) (v := ?_) (a' := ?_) #[true, true, true, true, true, true, false, false, false, false] rfl rfl (by kernel_rfl) (fun _ _ _ h => h) (Or.inl ⟨by rfl, ?_⟩) hHeld ?_ ?_
  rotate_left
  · intro w' s0
    go_simp
    with_reducible rfl
  rotate_left
  · simp only [Act.put, List.setIfInBounds_toArray, List.set_cons_zero, List.set_cons_succ, i64_w, i32_w]
    rfl
  refine one_ (i := 6) (N := some 12) #[true, true, true, true, true, true, true, false, false, false] rfl rfl (by kernel_rfl) (by decide) (fun K hK => ?_)
  refine goes_ Tryd.func59 (by kernel_rfl) rfl #[.int .i64 n, .int .i64 s] (by rfl) rfl rfl (by simp only [List.map_toArray, List.map_cons, List.map_nil]; rfl) ?_
  with_reducible refine (impl_NumPut.calls k n s r _ hn.out).mono ?_
  rintro e w3 ⟨rfl, hb⟩
  refine ⟨_, rfl, ?_⟩
  have hc3 : w3.cell? ⟨g, 0, none⟩ = some v := by rw [hb.cell (p := ⟨g, 0, none⟩) (by simpa using hlt)]; exact hHeld
  have ho3 := pw_own_below (show W.drew.ownsRow (g + 1) 5 1 v xs.length (nums .u8 xs) from ho) hb
  have hlt3 : g < w3.heap.size := Nat.lt_of_lt_of_le hlt hb.size
  refine hK.out _ _ (hc3) (fun hHeld => ?_)
  clear hK K
  refine norm_ (a' := ?_) ?_ ?_
  rotate_left
  · show Act.put _ (some 12) _ = _
    simp only [Act.put, List.setIfInBounds_toArray, List.set_cons_zero, List.set_cons_succ, i64_w, i32_w]
    rfl
  refine one_ (i := 7) (N := some 13) #[true, true, true, true, true, true, true, true, false, false] rfl rfl (by kernel_rfl) (by decide) (fun K hK => ?_)
  refine append_str_step (g + 1) (by rfl) (.tmp 9) (.tmp 12) 124 9 5 rfl Tryd.underlying124 Tryd.underlying9 info5_ v xs r (by rfl) (by rfl) ho3 hlen (Nat.succ_le_of_lt hlt3) ?_
  intro v1 w4 hov hg4
  generalize hn4 : (xs ++ bytesOf r).length = n4 at hov
  obtain ⟨A4, c4, rfl⟩ := row_slice hov
  replace hn4 := Aside0.mk hn4
  have hb3 : w3.heap[g]? = some (.cells #[v] 124 (0, 0)) := (hb.block g hlt).trans hblk
  have hb4 : w4.heap[g]? = some (.cells #[v] 124 (0, 0)) := (hg4.block g hlt3 (fun e => by have := own_base ho3 g e.symm; omega)).trans hb3
  have hc4 : w4.cell? ⟨g, 0, none⟩ = some v := (cell_of_row _ _ _ _ _ _ hb4).trans rfl
  have hf4 : w4.frozen? ⟨g, 0, none⟩ = false := frozen_of_row _ _ _ _ _ hb4
  refine hK.out _ _ (hc4) (fun hHeld => ?_)
  clear hK K
  refine norm_ (a' := ?_) ?_ ?_
  rotate_left
  · show Act.put _ (some 13) _ = _
    simp only [Act.put, List.setIfInBounds_toArray, List.set_cons_zero, List.set_cons_succ, i64_w, i32_w]
    rfl
  refine pure_ (i := 8) (N := some 14) (v := ?_) (a' := ?_) #[true, true, true, true, true, true, true, true, true, false] rfl rfl (by kernel_rfl) (fun _ _ _ h => h) (Or.inl ⟨by rfl, ?_⟩) ?_ ?_
  rotate_left
  · intro w'
    go_simp
    with_reducible rfl
  rotate_left
  · simp only [Act.put, List.setIfInBounds_toArray, List.set_cons_zero, List.set_cons_succ, i64_w, i32_w]
    rfl
  refine last_ (i := 9) (N := none) #[true, true, true, true, true, true, true, true, true, true] rfl rfl (by kernel_rfl) (by decide) (fun K hK => ?_)
  refine skip_ (w1 := ?_) (by rfl) rfl ?_ ?_
  rotate_left
  · go_simp
    rfl
  refine hK.out _ _ ?_
  clear hK K
  refine done_ (by kernel_rfl) ?_
  go_wp2_with fail
  first | go_end0 | ((try simp only [Exit.inBlock, Exit.then]); refine bodyPost_ret (results_none rfl _ _ _) rfl ?_)
  refine ⟨rfl, _, (blk_set hb4 0 _).trans rfl, by rw [hn4.out]; exact own_move hov (fun k_ hk => Below.heap_setCell _ _ _ _ (fun e => by have h5 := own_base hov k_ hk; have h6 : k_ = g := e; omega)), ?_⟩
  exact (((HB.drew.trans (hb.mono (Nat.le_of_lt hlt))).grown hg4 (Nat.le_of_lt hlt3) (fun k_ hk => Nat.le_of_lt (own_base ho3 k_ hk))).setCell (Nat.le_refl _) _)
set_option maxHeartbeats 8000000 in
set_option maxRecDepth 100000 in
theorem w_text (g : Nat) (r : ByteArray) (xs : List Int) (Wg W : World) (hW : Wr Wg W g xs) (hlen : xs.length + r.size ≤ 140737488355328) :
    Calls Tryd.prog 88 #[.pointer (some ⟨g, 0, none⟩), .string r] W fun e w' => e = .returned (.tuple #[]) ∧ Wr Wg w' g (xs ++ bytesOf r) := by
  obtain ⟨v, hblk, ho, HB⟩ := hW
  have hlt := blk_lt hblk
  have hc0 : W.cell? ⟨g, 0, none⟩ = some v := (cell_of_row _ _ _ _ _ _ hblk).trans rfl
  go_enter Tryd.func88, Tryd.ntmps88
  go_wp2_with ((with_reducible refine gate_builtin (b := .append) (xs := #[.tmp 7, .tmp 8]) rfl ?_); at_builtin; refine print_append_str (w0 := W) (g + 1) rfl (.tmp 7) (.tmp 8) 124 9 5 rfl Tryd.underlying124 Tryd.underlying9 info5_ v xs r rfl rfl ho (Below.refl _ _) (Nat.succ_le_of_lt hlt) hlen ?_; intro v1 w4 hov hb hg4; generalize hn4 : (xs ++ bytesOf r).length = n4 at hov; obtain ⟨A4, c4, rfl⟩ := row_slice hov; replace hn4 := Aside0.mk hn4; have hb4 : w4.heap[g]? = some (.cells #[v] 124 (0, 0)) := (hb.block g (Nat.lt_succ_self g)).trans hblk; have hc4 : w4.cell? ⟨g, 0, none⟩ = some v := (cell_of_row _ _ _ _ _ _ hb4).trans rfl; have hf4 : w4.frozen? ⟨g, 0, none⟩ = false := frozen_of_row _ _ _ _ _ hb4)
  first | go_end0 | ((try simp only [Exit.inBlock, Exit.then]); refine bodyPost_ret (results_none rfl _ _ _) rfl ?_)
  refine ⟨rfl, _, (blk_set hb4 0 _).trans rfl, by rw [hn4.out]; exact own_move hov (fun k_ hk => Below.heap_setCell _ _ _ _ (fun e => by have h5 := own_base hov k_ hk; have h6 : k_ = g := e; omega)), ?_⟩
  exact ((HB.trans (hb.mono (Nat.le_succ g))).setCell (Nat.le_refl _) _)
def impl_PacketPut.g (k : Nat) (up : Bool) (apid count : Int) (data : ByteArray) : Option ByteArray :=
  (impl_NumPut.f k (if up = true then 2048 + apid + 4096 else 2048 + apid) 2).bind fun h => (impl_NumPut.f k (49152 + count) 2).bind fun c => (impl_NumPut.f k ((data.size : Int) - 1) 2).bind fun z =>
    if h.size + c.size + z.size + data.size ≤ 140737488355328 then some (strOfNums (bytesOf h ++ (bytesOf c ++ (bytesOf z ++ bytesOf data)))) else none
def impl_PacketPut.f (k : Nat) (a0_0 : Bool) (a0_1 : Int) (a0_2 : Int) (a0_3 : ByteArray) : Option ByteArray :=
  if 0 ≤ a0_1 ∧ a0_1 ≤ 65535 ∧ 0 ≤ a0_2 ∧ a0_2 ≤ 65535 ∧ a0_3.size ≤ 1000 then (impl_packetOk.f a0_0 a0_1 a0_2 a0_3).bind fun b => if b = true then impl_PacketPut.g k a0_0 a0_1 a0_2 a0_3 else some ⟨#[]⟩
  else (impl_packetOk.f a0_0 a0_1 a0_2 a0_3).bind fun b => if b = true then none else some ⟨#[]⟩
theorem impl_PacketPut.mono : ∀ a0 a1 a2 a3 k, LeO (impl_PacketPut.f k a0 a1 a2 a3) (impl_PacketPut.f (k + 1) a0 a1 a2 a3) := by
  intro a0 a1 a2 a3 k
  unfold impl_PacketPut.f impl_PacketPut.g
  repeat' first
  | (with_reducible exact impl_NumPut.mono _ _ _)
  | (with_reducible exact LeO.refl _)
  | (with_reducible exact LeO.none _)
  | (with_reducible refine LeO.ite ?_ ?_)
  | (with_reducible refine LeO.bind ?_ (fun _ => ?_))
theorem box4 {W : World} {g : Nat} {v0 v1 v2 v3 : Value} {t : TypeId} (h : W.heap[g]? = some (.cells #[v0, v1, v2, v3] t (0, 0))) :
    W.cell? ⟨g, 0, none⟩ = some v0 ∧ W.cell? ⟨g, 1, none⟩ = some v1 ∧ W.cell? ⟨g, 2, none⟩ = some v2 ∧ W.cell? ⟨g, 3, none⟩ = some v3 := by
  have c := fun j => cell_of_row W g j _ _ _ h
  exact ⟨c 0, c 1, c 2, c 3⟩
theorem Wr.made (Wg : World) : Wr Wg (Wg.alloc (.cells #[.slice none 0 0] 124)) Wg.heap.size [] := ⟨_, heap_alloc_new _ _, ⟨rfl, .inl ⟨rfl, rfl⟩⟩, (Below.refl _ _).alloc (Nat.le_refl _) _⟩
theorem Wr.low {Wg W : World} {g b : Nat} {xs : List Int} {o : Obj} (h : Wr Wg W g xs) (hb : Wg.heap[b]? = some o) (hlt : b < g) : W.heap[b]? = some o := by
  obtain ⟨v, _, _, HB⟩ := h
  exact (HB.block b hlt).trans hb
theorem Wr.blk {Wg W : World} {g : Nat} {xs : List Int} (h : Wr Wg W g xs) : ∃ v, W.cell? ⟨g, 0, none⟩ = some v ∧ (convert 124 9 v).run Tryd.prog W = .ok (.string (strOfNums xs)) W := by
  obtain ⟨v, hb, ho, _⟩ := h
  exact ⟨v, (cell_of_row _ _ _ _ _ _ hb).trans rfl, own_string (P := Tryd.prog) Tryd.underlying124 Tryd.underlying5 Tryd.underlying9 ho⟩
theorem Wr.below {Wg W w : World} {g : Nat} {xs : List Int} (h : Wr Wg W g xs) (hw : Below w.heap.size w Wg) (hle : w.heap.size ≤ g) : Below w.heap.size w W := by
  obtain ⟨_, _, _, HB⟩ := h
  exact hw.trans (HB.mono hle)
set_option maxHeartbeats 8000000 in
set_option maxRecDepth 100000 in
theorem impl_PacketPut.calls (k : Nat) (a0_0 : Bool) (a0_1 : Int) (a0_2 : Int) (a0_3 : ByteArray) (r : ByteArray) (w : World) (h : impl_PacketPut.f k a0_0 a0_1 a0_2 a0_3 = some r) :
  Calls Tryd.prog 63 #[.agg #[.bool a0_0, .int .i64 a0_1, .int .i64 a0_2, .string a0_3]] w fun e w' => e = .returned (.string r) ∧ Below w.heap.size w w' := by
  have hno : ∀ b, impl_packetOk.f a0_0 a0_1 a0_2 a0_3 = some b → b = false → r = ⟨#[]⟩ → Calls Tryd.prog 63 #[.agg #[.bool a0_0, .int .i64 a0_1, .int .i64 a0_2, .string a0_3]] w fun e w' => e = .returned (.string r) ∧ Below w.heap.size w w' := by
    rintro b hb rfl rfl
    have HA := Aside0.mk hb
    clear h hb
    go_enter Tryd.func63, Tryd.ntmps63
    go_wp2_with fail
    refine (impl_packetOk.calls _ _ _ _ _ _ HA.out).mono ?_
    rintro e w1 ⟨rfl, B1⟩
    go_wp2_with fail
    go_ret
    exact ⟨rfl, ((Below.refl _ _).alloc (Nat.le_refl _) _).trans (B1.mono (by simp))⟩
  unfold impl_PacketPut.f at h
  split at h
  case isFalse =>
    obtain ⟨b, hb, h⟩ := Option.bind_eq_some_iff.mp h
    cases b with
    | true => simp at h
    | false => simp at h; exact hno false hb rfl h.symm
  rename_i hh
  obtain ⟨q0, q1, q2, q3, q4⟩ := hh
  obtain ⟨b, hb, h⟩ := Option.bind_eq_some_iff.mp h
  cases b with
  | false => simp at h; exact hno false hb rfl h.symm
  | true =>
    rw [if_pos rfl] at h
    unfold impl_PacketPut.g at h
    obtain ⟨hd, A1, h⟩ := Option.bind_eq_some_iff.mp h
    obtain ⟨cn, A2, h⟩ := Option.bind_eq_some_iff.mp h
    obtain ⟨sz, A3, h⟩ := Option.bind_eq_some_iff.mp h
    split at h
    case isFalse => cases h
    rename_i hlen
    obtain rfl := Option.some.inj h
    have HA := Aside0.mk hb
    clear h hb hno
    replace A1 := Aside0.mk A1
    replace A2 := Aside0.mk A2
    replace A3 := Aside0.mk A3
    have L1 : (bytesOf hd).length = hd.size := bytesOf_length _
    have L2 : (bytesOf cn).length = cn.size := bytesOf_length _
    have L3 : (bytesOf sz).length = sz.size := bytesOf_length _
    replace L1 := Aside0.mk L1
    replace L2 := Aside0.mk L2
    replace L3 := Aside0.mk L3
    replace hlen := Aside0.mk hlen
    cases a0_0 with
    | true =>
      rw [if_pos rfl] at A1
      go_enter Tryd.func63, Tryd.ntmps63
      go_wp2_with fail
      refine (impl_packetOk.calls _ _ _ _ _ _ HA.out).mono ?_
      rintro e w1 ⟨rfl, B1⟩
      have P1 : w1.heap[w.heap.size]? = some (.cells #[.bool true, .int .i64 a0_1, .int .i64 a0_2, .string a0_3] 53 (0, 0)) := (B1.block _ (by simp)).trans (heap_alloc_new _ _)
      have hB : Below w.heap.size w w1 := ((Below.refl _ _).alloc (Nat.le_refl _) _).trans (B1.mono (by simp))
      replace hB := Aside0.mk hB
      have hz1 : w.heap.size < w1.heap.size := blk_lt P1
      clear B1
      obtain ⟨c0, c1, c2, c3⟩ := box4 P1
      replace P1 := Aside0.mk P1
      go_wp2_with fail
      refine (w_number k w1.heap.size _ _ hd [] w1 _ (Wr.made w1) A1.out (by have := hlen.out; simp; omega)).mono ?_
      rintro e w2 ⟨rfl, R2⟩
      clear c0 c1 c2 c3
      obtain ⟨c0, c1, c2, c3⟩ := box4 (R2.low P1.out hz1)
      replace R2 := Aside0.mk R2
      go_wp2_with fail
      refine (w_number k w1.heap.size _ _ cn _ w1 _ R2.out A2.out (by have := hlen.out; have := L1.out; simp; omega)).mono ?_
      rintro e w3 ⟨rfl, R3⟩
      clear c0 c1 c2 c3 R2
      obtain ⟨c0, c1, c2, c3⟩ := box4 (R3.low P1.out hz1)
      replace R3 := Aside0.mk R3
      go_wp2_with fail
      refine (w_number k w1.heap.size _ _ sz _ w1 _ R3.out A3.out (by have := hlen.out; have := L1.out; have := L2.out; simp; omega)).mono ?_
      rintro e w4 ⟨rfl, R4⟩
      clear c0 c1 c2 c3 R3
      obtain ⟨c0, c1, c2, c3⟩ := box4 (R4.low P1.out hz1)
      replace R4 := Aside0.mk R4
      go_wp2_with fail
      refine (w_text w1.heap.size _ _ w1 _ R4.out (by have := hlen.out; have := L1.out; have := L2.out; have := L3.out; simp; omega)).mono ?_
      rintro e w5 ⟨rfl, R5⟩
      obtain ⟨v5, d0, d1⟩ := R5.blk
      have hEnd := Aside0.mk (R5.below hB.out (Nat.le_of_lt hz1))
      clear c0 c1 c2 c3 R4
      replace R5 := Aside0.mk R5
      go_wp2_with fail
      go_ret
      exact ⟨rfl, hEnd.out⟩
    | false =>
      rw [if_neg (by simp)] at A1
      go_enter Tryd.func63, Tryd.ntmps63
      go_wp2_with fail
      refine (impl_packetOk.calls _ _ _ _ _ _ HA.out).mono ?_
      rintro e w1 ⟨rfl, B1⟩
      have P1 : w1.heap[w.heap.size]? = some (.cells #[.bool false, .int .i64 a0_1, .int .i64 a0_2, .string a0_3] 53 (0, 0)) := (B1.block _ (by simp)).trans (heap_alloc_new _ _)
      have hB : Below w.heap.size w w1 := ((Below.refl _ _).alloc (Nat.le_refl _) _).trans (B1.mono (by simp))
      replace hB := Aside0.mk hB
      have hz1 : w.heap.size < w1.heap.size := blk_lt P1
      clear B1
      obtain ⟨c0, c1, c2, c3⟩ := box4 P1
      replace P1 := Aside0.mk P1
      go_wp2_with fail
      refine (w_number k w1.heap.size _ _ hd [] w1 _ (Wr.made w1) A1.out (by have := hlen.out; simp; omega)).mono ?_
      rintro e w2 ⟨rfl, R2⟩
      clear c0 c1 c2 c3
      obtain ⟨c0, c1, c2, c3⟩ := box4 (R2.low P1.out hz1)
      replace R2 := Aside0.mk R2
      go_wp2_with fail
      refine (w_number k w1.heap.size _ _ cn _ w1 _ R2.out A2.out (by have := hlen.out; have := L1.out; simp; omega)).mono ?_
      rintro e w3 ⟨rfl, R3⟩
      clear c0 c1 c2 c3 R2
      obtain ⟨c0, c1, c2, c3⟩ := box4 (R3.low P1.out hz1)
      replace R3 := Aside0.mk R3
      go_wp2_with fail
      refine (w_number k w1.heap.size _ _ sz _ w1 _ R3.out A3.out (by have := hlen.out; have := L1.out; have := L2.out; simp; omega)).mono ?_
      rintro e w4 ⟨rfl, R4⟩
      clear c0 c1 c2 c3 R3
      obtain ⟨c0, c1, c2, c3⟩ := box4 (R4.low P1.out hz1)
      replace R4 := Aside0.mk R4
      go_wp2_with fail
      refine (w_text w1.heap.size _ _ w1 _ R4.out (by have := hlen.out; have := L1.out; have := L2.out; have := L3.out; simp; omega)).mono ?_
      rintro e w5 ⟨rfl, R5⟩
      obtain ⟨v5, d0, d1⟩ := R5.blk
      have hEnd := Aside0.mk (R5.below hB.out (Nat.le_of_lt hz1))
      clear c0 c1 c2 c3 R4
      replace R5 := Aside0.mk R5
      go_wp2_with fail
      go_ret
      exact ⟨rfl, hEnd.out⟩
theorem box6 {W : World} {g : Nat} {v0 v1 v2 v3 v4 v5 : Value} {t : TypeId} (h : W.heap[g]? = some (.cells #[v0, v1, v2, v3, v4, v5] t (0, 0))) :
    W.cell? ⟨g, 0, none⟩ = some v0 ∧ W.cell? ⟨g, 1, none⟩ = some v1 ∧ W.cell? ⟨g, 2, none⟩ = some v2 ∧ W.cell? ⟨g, 3, none⟩ = some v3 ∧ W.cell? ⟨g, 4, none⟩ = some v4 ∧ W.cell? ⟨g, 5, none⟩ = some v5 := by
  have c := fun j => cell_of_row W g j _ _ _ h
  exact ⟨c 0, c 1, c 2, c 3, c 4, c 5⟩

/-! ### stringslite_HasPrefix: function 89 -/
def stringslite_HasPrefix.f (a0 : ByteArray) (a1 : ByteArray) : Option (Bool) := if (a0.size : Int) ≥ (a1.size : Int) then (if 0 ≤ (a1.size : Int) then (if (a1.size : Int) ≤ (a0.size : Int) then (some ((a0.extract 0 ((a1.size : Int) : Int).toNat).toList == a1.toList)) else (none)) else (none)) else (some false)
set_option maxHeartbeats 8000000 in
set_option maxRecDepth 100000 in
theorem stringslite_HasPrefix.calls (a0 : ByteArray) (a1 : ByteArray) (r : Bool) (w : World) (h : stringslite_HasPrefix.f a0 a1 = some r) :
  Calls Tryd.prog 89 #[.string a0, .string a1] w fun e w' => e = .returned (.bool r) ∧ Drawn0 w w' := by
 have H : (if (a0.size : Int) ≥ (a1.size : Int) then (if 0 ≤ (a1.size : Int) then (if (a1.size : Int) ≤ (a0.size : Int) then (some ((a0.extract 0 ((a1.size : Int) : Int).toNat).toList == a1.toList)) else (none)) else (none)) else (some false)) = some r := h
 clear h
 by_cases c3 : (a0.size : Int) ≥ (a1.size : Int)
 ·rw [if_pos c3] at H
  have c3b0 : decide ((a1.size : Int) ≤ (a0.size : Int)) = true := decide_eq_true c3
  have c3b1 : decide (a1.size ≤ a0.size) = true := decide_eq_true (Int.ofNat_le.mp c3)
  clear c3
  by_cases c4 : 0 ≤ (a1.size : Int)
  ·rw [if_pos c4] at H
   have c4b0 := eq_true c4
   have c4b1 : decide (0 ≤ (a1.size : Int)) = true := decide_eq_true c4
   clear c4
   by_cases c5 : (a1.size : Int) ≤ (a0.size : Int)
   ·rw [if_pos c5] at H
    have c5b0 := eq_true c5
    have c5b1 : decide ((a1.size : Int) ≤ (a0.size : Int)) = true := decide_eq_true c5
    clear c5
    obtain rfl := Option.some.inj H
    go_enter Tryd.func89, Tryd.ntmps89
    go_wp2
    go_ret
    exact ⟨by first | rfl | (simp; done) | (simp [*]; done), by repeat (first | exact Drawn0.refl _ | apply Drawn0.step)⟩
   ·rw [if_neg c5] at H
    exact absurd H (by simp)
  ·rw [if_neg c4] at H
   exact absurd H (by simp)
 ·rw [if_neg c3] at H
  have c3b0 : decide ((a1.size : Int) ≤ (a0.size : Int)) = false := decide_eq_false c3
  have c3b1 : decide (a1.size ≤ a0.size) = false := decide_eq_false (fun h => c3 (Int.ofNat_le.mpr h))
  clear c3
  obtain rfl := Option.some.inj H
  go_enter Tryd.func89, Tryd.ntmps89
  go_wp2
  go_ret
  exact ⟨by first | rfl | (simp; done) | (simp [*]; done), by repeat (first | exact Drawn0.refl _ | apply Drawn0.step)⟩

/-! ### strings_HasPrefix: function 64 -/
def strings_HasPrefix.f (a0 : ByteArray) (a1 : ByteArray) : Option (Bool) := (stringslite_HasPrefix.f a0 a1).bind fun t162 => (some t162)
set_option maxHeartbeats 8000000 in
set_option maxRecDepth 100000 in
theorem strings_HasPrefix.calls (a0 : ByteArray) (a1 : ByteArray) (r : Bool) (w : World) (h : strings_HasPrefix.f a0 a1 = some r) :
  Calls Tryd.prog 64 #[.string a0, .string a1] w fun e w' => e = .returned (.bool r) ∧ Drawn0 w w' := by
 have H : ((stringslite_HasPrefix.f a0 a1).bind fun t162 => (some t162)) = some r := h
 clear h
 replace H := Option.bind_eq_some_iff.mp H
 obtain ⟨t162, A30, H⟩ := H
 replace H : (some t162) = some r := H
 have A3 := Aside0.mk A30
 clear A30
 obtain rfl := Option.some.inj H
 go_enter Tryd.func64, Tryd.ntmps64
 go_wp2_with (first | ((with_reducible refine gate_callee (f := 89) rfl ?_); refine goesL_ (some 7) rfl rfl Tryd.func89 (by kernel_rfl) rfl #[.string a0, .string a1] rfl gl_ ?_; (with_reducible refine (stringslite_HasPrefix.calls a0 a1 t162 _ A3.out).mono ?_); rintro e w' ⟨rfl, ⟨nd, rfl⟩⟩; refine ⟨_, rfl, ?_⟩))
 go_ret
 exact ⟨by first | rfl | (simp; done) | (simp [*]; done), by repeat (first | exact Drawn0.refl _ | apply Drawn0.step)⟩

/-! ### impl_PacketGet: function 27 -/
def impl_PacketGet.j0 : Nat → ByteArray → Int → Bool → Option (Bool × Int × Int × ByteArray × Int)
 | 0, _, _, _ => none
 | k + 1, x0, x1, x20 => if x20 = true then (some (false, 0, 0, (⟨#[]⟩ : ByteArray), 0)) else (if 0 ≤ x1 then (if x1 ≤ (x0.size : Int) then ((impl_readerOf.f (x0.extract (x1 : Int).toNat x0.size)).bind fun bt164 => ((impl_reader_number.f k bt164.1 bt164.2.1 bt164.2.2.1 bt164.2.2.2 2).bind fun bt169 => ((impl_reader_number.f k bt169.2.1 bt169.2.2.1 bt169.2.2.2.1 bt169.2.2.2.2 2).bind fun bt174 => ((impl_reader_number.f k bt174.2.1 bt174.2.2.1 bt174.2.2.2.1 bt174.2.2.2.2 2).bind fun bt179 => ((impl_reader_take.f bt179.2.1 bt179.2.2.1 bt179.2.2.2.1 bt179.2.2.2.2 (wrap64 (bt179.1 + 1))).bind fun bt184 => (if bt184.2.2.2.2 = true then (some (false, 0, 0, (⟨#[]⟩ : ByteArray), 0)) else ((impl_PacketPut.f k ((Go.bits .and .i64 bt169.1 4096) != 0) (Go.bits .and .i64 bt169.1 2047) (wrap64 (bt174.1 - 49152)) bt184.1).bind fun t190 => (if t190.toList = ([] : List UInt8) then (some (false, 0, 0, (⟨#[]⟩ : ByteArray), 0)) else ((strings_HasPrefix.f (x0.extract (x1 : Int).toNat x0.size) t190).bind fun t191 => (if t191 = true then (some (((Go.bits .and .i64 bt169.1 4096) != 0), Go.bits .and .i64 bt169.1 2047, wrap64 (bt174.1 - 49152), bt184.1, (t190.size : Int))) else (some (false, 0, 0, (⟨#[]⟩ : ByteArray), 0)))))))))))) else (none)) else (none))
def impl_PacketGet.f (k : Nat) (a0 : ByteArray) (a1 : Int) : Option (Bool × Int × Int × ByteArray × Int) := if a1 < 0 then (impl_PacketGet.j0 k a0 a1 true) else (impl_PacketGet.j0 k a0 a1 (decide (a1 > (a0.size : Int))))
theorem impl_PacketGet.mono_l : ∀ k, (∀ y0 y1 y2, LeO (impl_PacketGet.j0 k y0 y1 y2) (impl_PacketGet.j0 (k + 1) y0 y1 y2))
 | 0 => fun _ _ _ r h => by simp [impl_PacketGet.j0] at h
 | k + 1 => by
  have ih0 := impl_PacketGet.mono_l k
  ·intro y0 y1 y2
   unfold impl_PacketGet.j0
   repeat' first
   | (with_reducible exact ih0 _ _ _)
   | (with_reducible exact impl_PacketPut.mono _ _ _ _ _)
   | (with_reducible exact impl_reader_number.mono _ _ _ _ _ _)
   | (with_reducible exact LeO.refl _)
   | (with_reducible exact LeO.none _)
   | (with_reducible refine LeO.ite ?_ ?_)
   | (with_reducible refine LeO.bind ?_ (fun _ => ?_))
   | exact ih0 _ _ _
   | exact impl_PacketPut.mono _ _ _ _ _
   | exact impl_reader_number.mono _ _ _ _ _ _
   | exact LeO.none _
   | refine LeO.ite ?_ ?_
   | refine LeO.bind ?_ (fun _ => ?_)
theorem impl_PacketGet.mono : ∀ a0 a1 k, LeO (impl_PacketGet.f k a0 a1) (impl_PacketGet.f (k + 1) a0 a1) := by
 intro a0 a1 k
 have ih0 := impl_PacketGet.mono_l k
 unfold impl_PacketGet.f
 repeat' first
   | (with_reducible exact ih0 _ _ _)
   | (with_reducible exact impl_PacketPut.mono _ _ _ _ _)
   | (with_reducible exact impl_reader_number.mono _ _ _ _ _ _)
   | (with_reducible exact LeO.refl _)
   | (with_reducible exact LeO.none _)
   | (with_reducible refine LeO.ite ?_ ?_)
   | (with_reducible refine LeO.bind ?_ (fun _ => ?_))
   | exact ih0 _ _ _
   | exact impl_PacketPut.mono _ _ _ _ _
   | exact impl_reader_number.mono _ _ _ _ _ _
   | exact LeO.none _
   | refine LeO.ite ?_ ?_
   | refine LeO.bind ?_ (fun _ => ?_)
set_option maxHeartbeats 8000000 in
set_option maxRecDepth 100000 in
theorem impl_PacketGet.calls (k : Nat) (a0 : ByteArray) (a1 : Int) (r1 : Bool) (r2 : Int) (r3 : Int) (r4 : ByteArray) (r5 : Int) (w : World) (h : impl_PacketGet.f k a0 a1 = some (r1, r2, r3, r4, r5)) :
  Calls Tryd.prog 27 #[.string a0, .int .i64 a1] w fun e w' => e = .returned (.tuple #[.agg #[.bool r1, .int .i64 r2, .int .i64 r3, .string r4], .int .i64 r5]) ∧ Below w.heap.size w w' := by
 have hu53 := Tryd.underlying53
 have HB := m_ (Below.refl w.heap.size w)
 have H : (if a1 < 0 then (impl_PacketGet.j0 k a0 a1 true) else (impl_PacketGet.j0 k a0 a1 (decide (a1 > (a0.size : Int))))) = some (r1, r2, r3, r4, r5) := h
 clear h
 have HC3 := Aside0.mk H
 clear H
 go_enter Tryd.func27, Tryd.ntmps27
 go_upto_region 1 with (first | ((with_reducible refine gate_dst (N := 4) rfl ?_); (try (refine gate_guard (by rfl) ?_; dsimp only)); refine box_event ?hg (N := 4) ?hd (cs := #[.bool false, .int .i64 0, .int .i64 0, .string (⟨#[]⟩ : ByteArray)]) (t := 53) ?hr ?_; (case hd => rfl); (case hg => rfl); (case hr => first | (go_simp; done) | (go_simp; rfl)); intro gb163 hg w4 hbox hb; have n0_ := m_ (below_step (bN HB.out) hb); have n1_ := m_ (hbox); have n2_ := m_ ((by rw [hg]; exact (below_size (bN HB.out)) : w.heap.size ≤ gb163)); have n3_ := m_ ((by rw [hg]; exact (below_size (bN HB.out)) : w.heap.size ≤ gb163)); clear HB; have HB := n0_; have BK163 := n1_; have GW163 := n2_; have GE163 := n3_; clear n0_ n1_ n2_ n3_; clear hb hbox hg))
 (try simp only [Act.put, List.setIfInBounds_toArray, List.set_cons_zero, List.set_cons_succ])
 go_cut [20] (fun v20 wc => ∃ (kq : Nat) (x20_2 : Bool), v20 = .bool x20_2 ∧ Aside0 (impl_PacketGet.j0 kq a0 a1 x20_2 = some (r1, r2, r3, r4, r5)) ∧ Aside0 (kq ≤ k) ∧ Aside0 (wc.heap[gb163]? = some (.cells #[.bool false, .int .i64 0, .int .i64 0, .string (⟨#[]⟩ : ByteArray)] 53 (0, 0))) ∧ Aside0 (Below w.heap.size w wc))
 case first =>
  have H := HC3.out
  clear HC3
  by_cases c5 : a1 < 0
  ·rw [if_pos c5] at H
   have c5b0 : decide (a1 < 0) = true := decide_eq_true c5
   clear c5
   (first | rw [c5b0] | (simp only [i64_w, i32_w]; rw [c5b0]) | skip)
   have H' := Aside0.mk H
   clear H
   go_wp2
   go_meet
   case rel => exact ⟨_, (true), (by first | rfl | (simp; done) | (simp [*]; done)), H', ⟨by first | omega | exact Nat.le_refl _⟩, ⟨kN BK163.out⟩, ⟨by repeat (first | (with_reducible first | exact HB.out | apply below_alloc | apply pw_below_drewN | apply below_drew1 | refine below_set ?_ GE163.out) | exact HB.out)⟩⟩
  ·rw [if_neg c5] at H
   have c5b0 : decide (a1 < 0) = false := decide_eq_false c5
   clear c5
   (first | rw [c5b0] | (simp only [i64_w, i32_w]; rw [c5b0]) | skip)
   have H' := Aside0.mk H
   clear H
   go_wp2
   go_meet
   case rel => exact ⟨_, (decide (a1 > (a0.size : Int))), (by first | rfl | (simp; done) | (simp [*]; done)), H', ⟨by first | omega | exact Nat.le_refl _⟩, ⟨kN BK163.out⟩, ⟨by repeat (first | (with_reducible first | exact HB.out | apply below_alloc | apply pw_below_drewN | apply below_drew1 | refine below_set ?_ GE163.out) | exact HB.out)⟩⟩
 case rest =>
  clear HC3
  try clear c2
  try clear p2
  try clear c5
  try clear c5b0
  obtain ⟨kq, x20_2, rfl, HA, HJ2, BK163, HB⟩ := hcut
  cases kq with
  | zero => exact absurd HA.out (by simp [impl_PacketGet.j0])
  | succ kj2 =>
   have H := HA.out
   clear HA
   simp only [impl_PacketGet.j0] at H
   by_cases c6 : x20_2 = true
   ·subst c6
    have H1 : (some (false, 0, 0, (⟨#[]⟩ : ByteArray), 0)) = some (r1, r2, r3, r4, r5) := by rw [if_pos rfl] at H; exact H
    clear H
    have H := H1
    clear H1
    simp only [Option.some.injEq, Prod.mk.injEq] at H
    obtain ⟨rfl, rfl, rfl, rfl, rfl⟩ := H
    have hcz7_0 : wc.cell? ⟨gb163, 0, none⟩ = some (.bool false) := bc BK163 0
    have hcz7_1 : wc.cell? ⟨gb163, 1, none⟩ = some (.int .i64 0) := bc BK163 1
    have hcz7_2 : wc.cell? ⟨gb163, 2, none⟩ = some (.int .i64 0) := bc BK163 2
    have hcz7_3 : wc.cell? ⟨gb163, 3, none⟩ = some (.string (⟨#[]⟩ : ByteArray)) := bc BK163 3
    have hfz7_0 := blk_frozen BK163.out 0
    have hfz7_1 := blk_frozen BK163.out 1
    have hfz7_2 := blk_frozen BK163.out 2
    have hfz7_3 := blk_frozen BK163.out 3
    go_wp2
    refine bodyPost_ret (results_ct rfl _ _ gb163 53 #[.bool false, .int .i64 0, .int .i64 0, .string (⟨#[]⟩ : ByteArray)] (0, 0) _ rfl (kP BK163.out) Tryd.underlying53 rfl (by kernel_rfl)) rfl ?_
    exact ⟨by first | rfl | (simp [errW_none, errW_some] <;> rfl) | (simp [*, errW_none, errW_some] <;> rfl), by repeat (first | (with_reducible first | exact HB.out | apply below_alloc | apply pw_below_drewN | apply below_drew1 | refine below_set ?_ GE163.out) | exact HB.out)⟩
   ·replace c6 := Bool.eq_false_iff.mpr c6
    subst c6
    have H1 : (if 0 ≤ a1 then (if a1 ≤ (a0.size : Int) then ((impl_readerOf.f (a0.extract (a1 : Int).toNat a0.size)).bind fun bt164 => ((impl_reader_number.f kj2 bt164.1 bt164.2.1 bt164.2.2.1 bt164.2.2.2 2).bind fun bt169 => ((impl_reader_number.f kj2 bt169.2.1 bt169.2.2.1 bt169.2.2.2.1 bt169.2.2.2.2 2).bind fun bt174 => ((impl_reader_number.f kj2 bt174.2.1 bt174.2.2.1 bt174.2.2.2.1 bt174.2.2.2.2 2).bind fun bt179 => ((impl_reader_take.f bt179.2.1 bt179.2.2.1 bt179.2.2.2.1 bt179.2.2.2.2 (wrap64 (bt179.1 + 1))).bind fun bt184 => (if bt184.2.2.2.2 = true then (some (false, 0, 0, (⟨#[]⟩ : ByteArray), 0)) else ((impl_PacketPut.f kj2 ((Go.bits .and .i64 bt169.1 4096) != 0) (Go.bits .and .i64 bt169.1 2047) (wrap64 (bt174.1 - 49152)) bt184.1).bind fun t190 => (if t190.toList = ([] : List UInt8) then (some (false, 0, 0, (⟨#[]⟩ : ByteArray), 0)) else ((strings_HasPrefix.f (a0.extract (a1 : Int).toNat a0.size) t190).bind fun t191 => (if t191 = true then (some (((Go.bits .and .i64 bt169.1 4096) != 0), Go.bits .and .i64 bt169.1 2047, wrap64 (bt174.1 - 49152), bt184.1, (t190.size : Int))) else (some (false, 0, 0, (⟨#[]⟩ : ByteArray), 0)))))))))))) else (none)) else (none)) = some (r1, r2, r3, r4, r5) := by rw [if_neg (show ¬ (false = true) by decide)] at H; exact H
    clear H
    have H := H1
    clear H1
    by_cases c8 : 0 ≤ a1
    ·rw [if_pos c8] at H
     have c8b0 := eq_true c8
     have c8b1 : decide (0 ≤ a1) = true := decide_eq_true c8
     clear c8
     by_cases c9 : a1 ≤ (a0.size : Int)
     ·rw [if_pos c9] at H
      have c9b0 := eq_true c9
      have c9b1 : decide (a1 ≤ (a0.size : Int)) = true := decide_eq_true c9
      clear c9
      replace H := Option.bind_eq_some_iff.mp H
      obtain ⟨⟨t164, t165, t166, t167⟩, A100, H⟩ := H
      replace H : ((impl_reader_number.f kj2 t164 t165 t166 t167 2).bind fun bt169 => ((impl_reader_number.f kj2 bt169.2.1 bt169.2.2.1 bt169.2.2.2.1 bt169.2.2.2.2 2).bind fun bt174 => ((impl_reader_number.f kj2 bt174.2.1 bt174.2.2.1 bt174.2.2.2.1 bt174.2.2.2.2 2).bind fun bt179 => ((impl_reader_take.f bt179.2.1 bt179.2.2.1 bt179.2.2.2.1 bt179.2.2.2.2 (wrap64 (bt179.1 + 1))).bind fun bt184 => (if bt184.2.2.2.2 = true then (some (false, 0, 0, (⟨#[]⟩ : ByteArray), 0)) else ((impl_PacketPut.f kj2 ((Go.bits .and .i64 bt169.1 4096) != 0) (Go.bits .and .i64 bt169.1 2047) (wrap64 (bt174.1 - 49152)) bt184.1).bind fun t190 => (if t190.toList = ([] : List UInt8) then (some (false, 0, 0, (⟨#[]⟩ : ByteArray), 0)) else ((strings_HasPrefix.f (a0.extract (a1 : Int).toNat a0.size) t190).bind fun t191 => (if t191 = true then (some (((Go.bits .and .i64 bt169.1 4096) != 0), Go.bits .and .i64 bt169.1 2047, wrap64 (bt174.1 - 49152), bt184.1, (t190.size : Int))) else (some (false, 0, 0, (⟨#[]⟩ : ByteArray), 0))))))))))) = some (r1, r2, r3, r4, r5) := H
      have A10 := Aside0.mk A100
      clear A100
      replace H := Option.bind_eq_some_iff.mp H
      obtain ⟨⟨t169, t170, t171, t172, t173⟩, A110, H⟩ := H
      replace H : ((impl_reader_number.f kj2 t170 t171 t172 t173 2).bind fun bt174 => ((impl_reader_number.f kj2 bt174.2.1 bt174.2.2.1 bt174.2.2.2.1 bt174.2.2.2.2 2).bind fun bt179 => ((impl_reader_take.f bt179.2.1 bt179.2.2.1 bt179.2.2.2.1 bt179.2.2.2.2 (wrap64 (bt179.1 + 1))).bind fun bt184 => (if bt184.2.2.2.2 = true then (some (false, 0, 0, (⟨#[]⟩ : ByteArray), 0)) else ((impl_PacketPut.f kj2 ((Go.bits .and .i64 t169 4096) != 0) (Go.bits .and .i64 t169 2047) (wrap64 (bt174.1 - 49152)) bt184.1).bind fun t190 => (if t190.toList = ([] : List UInt8) then (some (false, 0, 0, (⟨#[]⟩ : ByteArray), 0)) else ((strings_HasPrefix.f (a0.extract (a1 : Int).toNat a0.size) t190).bind fun t191 => (if t191 = true then (some (((Go.bits .and .i64 t169 4096) != 0), Go.bits .and .i64 t169 2047, wrap64 (bt174.1 - 49152), bt184.1, (t190.size : Int))) else (some (false, 0, 0, (⟨#[]⟩ : ByteArray), 0)))))))))) = some (r1, r2, r3, r4, r5) := H
      have A11 := Aside0.mk A110
      clear A110
      replace H := Option.bind_eq_some_iff.mp H
      obtain ⟨⟨t174, t175, t176, t177, t178⟩, A120, H⟩ := H
      replace H : ((impl_reader_number.f kj2 t175 t176 t177 t178 2).bind fun bt179 => ((impl_reader_take.f bt179.2.1 bt179.2.2.1 bt179.2.2.2.1 bt179.2.2.2.2 (wrap64 (bt179.1 + 1))).bind fun bt184 => (if bt184.2.2.2.2 = true then (some (false, 0, 0, (⟨#[]⟩ : ByteArray), 0)) else ((impl_PacketPut.f kj2 ((Go.bits .and .i64 t169 4096) != 0) (Go.bits .and .i64 t169 2047) (wrap64 (t174 - 49152)) bt184.1).bind fun t190 => (if t190.toList = ([] : List UInt8) then (some (false, 0, 0, (⟨#[]⟩ : ByteArray), 0)) else ((strings_HasPrefix.f (a0.extract (a1 : Int).toNat a0.size) t190).bind fun t191 => (if t191 = true then (some (((Go.bits .and .i64 t169 4096) != 0), Go.bits .and .i64 t169 2047, wrap64 (t174 - 49152), bt184.1, (t190.size : Int))) else (some (false, 0, 0, (⟨#[]⟩ : ByteArray), 0))))))))) = some (r1, r2, r3, r4, r5) := H
      have A12 := Aside0.mk A120
      clear A120
      replace H := Option.bind_eq_some_iff.mp H
      obtain ⟨⟨t179, t180, t181, t182, t183⟩, A130, H⟩ := H
      replace H : ((impl_reader_take.f t180 t181 t182 t183 (wrap64 (t179 + 1))).bind fun bt184 => (if bt184.2.2.2.2 = true then (some (false, 0, 0, (⟨#[]⟩ : ByteArray), 0)) else ((impl_PacketPut.f kj2 ((Go.bits .and .i64 t169 4096) != 0) (Go.bits .and .i64 t169 2047) (wrap64 (t174 - 49152)) bt184.1).bind fun t190 => (if t190.toList = ([] : List UInt8) then (some (false, 0, 0, (⟨#[]⟩ : ByteArray), 0)) else ((strings_HasPrefix.f (a0.extract (a1 : Int).toNat a0.size) t190).bind fun t191 => (if t191 = true then (some (((Go.bits .and .i64 t169 4096) != 0), Go.bits .and .i64 t169 2047, wrap64 (t174 - 49152), bt184.1, (t190.size : Int))) else (some (false, 0, 0, (⟨#[]⟩ : ByteArray), 0)))))))) = some (r1, r2, r3, r4, r5) := H
      have A13 := Aside0.mk A130
      clear A130
      replace H := Option.bind_eq_some_iff.mp H
      obtain ⟨⟨t184, t185, t186, t187, t188⟩, A140, H⟩ := H
      replace H : (if t188 = true then (some (false, 0, 0, (⟨#[]⟩ : ByteArray), 0)) else ((impl_PacketPut.f kj2 ((Go.bits .and .i64 t169 4096) != 0) (Go.bits .and .i64 t169 2047) (wrap64 (t174 - 49152)) t184).bind fun t190 => (if t190.toList = ([] : List UInt8) then (some (false, 0, 0, (⟨#[]⟩ : ByteArray), 0)) else ((strings_HasPrefix.f (a0.extract (a1 : Int).toNat a0.size) t190).bind fun t191 => (if t191 = true then (some (((Go.bits .and .i64 t169 4096) != 0), Go.bits .and .i64 t169 2047, wrap64 (t174 - 49152), t184, (t190.size : Int))) else (some (false, 0, 0, (⟨#[]⟩ : ByteArray), 0))))))) = some (r1, r2, r3, r4, r5) := H
      have A14 := Aside0.mk A140
      clear A140
      by_cases c15 : t188 = true
      ·subst c15
       have H1 : (some (false, 0, 0, (⟨#[]⟩ : ByteArray), 0)) = some (r1, r2, r3, r4, r5) := by rw [if_pos rfl] at H; exact H
       clear H
       have H := H1
       clear H1
       simp only [Option.some.injEq, Prod.mk.injEq] at H
       obtain ⟨rfl, rfl, rfl, rfl, rfl⟩ := H
       go_wp2_with (first | ((with_reducible refine gate_callee (f := 60) rfl ?_); refine goesL_ (some 25) rfl rfl Tryd.func60 (by kernel_rfl) rfl #[.string (a0.extract (a1 : Int).toNat a0.size)] rfl gl_ ?_; (with_reducible refine (impl_readerOf.calls (a0.extract (a1 : Int).toNat a0.size) t164 t165 t166 t167 w _ ?side1 A10.out).mono ?_); (case side1 => repeat (first | (with_reducible first | exact HB.out | apply below_alloc | apply pw_below_drewN | apply below_drew1 | refine below_set ?_ GE163.out) | exact HB.out)); rintro e w16 ⟨g168, rfl, hi, hb, hb2⟩; refine ⟨_, rfl, ?_⟩; have n0_ := m_ (blk_below (g := gb163) (o := .cells #[.bool false, .int .i64 0, .int .i64 0, .string (⟨#[]⟩ : ByteArray)] 53 (0, 0)) (kN BK163.out) hb2); have n1_ := m_ (hb); have n2_ := m_ (hi); have n3_ := m_ (IsS95.ne_blk hi (blk_below (g := gb163) (o := .cells #[.bool false, .int .i64 0, .int .i64 0, .string (⟨#[]⟩ : ByteArray)] 53 (0, 0)) (kN BK163.out) hb2) (by decide)); have n4_ := m_ (Ne.symm (IsS95.ne_blk hi (blk_below (g := gb163) (o := .cells #[.bool false, .int .i64 0, .int .i64 0, .string (⟨#[]⟩ : ByteArray)] 53 (0, 0)) (kN BK163.out) hb2) (by decide))); clear BK163; clear HB; have BK163 := n0_; have HB := n1_; have HI168 := n2_; have NB168_163 := n3_; have NB163_168 := n4_; clear n0_ n1_ n2_ n3_ n4_; (try clear hb); (try clear hb2); (try clear hk); (try clear hi)) | ((with_reducible refine gate_callee (f := 61) rfl ?_); refine goesL_ (some 27) rfl rfl Tryd.func61 (by kernel_rfl) rfl #[.pointer (some ⟨g168, 0, none⟩), .int .i64 2] rfl gl_ ?_; (with_reducible refine (impl_reader_number.calls kj2 g168 t164 t165 t166 t167 2 t169 t170 t171 t172 t173 w _ ?side1 ?side2 A11.out).mono ?_); (case side1 => repeat (first | (with_reducible first | exact HI168.out | apply IsS95.alloc | apply IsS95.drewN | apply IsS95.drew | apply IsS95.set_0 | apply IsS95.set_1 | apply IsS95.set_2 | apply IsS95.set_3 | refine IsS95.far ?_ NB168_163.out _) | exact HI168.out)); (case side2 => repeat (first | (with_reducible first | exact HB.out | apply below_alloc | apply pw_below_drewN | apply below_drew1 | refine below_set ?_ (IsS95.ge HI168.out) | refine below_set ?_ GE163.out) | exact HB.out)); rintro e w17 ⟨rfl, hi, hb, hk⟩; refine ⟨_, rfl, ?_⟩; have n0_ := m_ (KeepBut.blk hk (g' := gb163) (o := .cells #[.bool false, .int .i64 0, .int .i64 0, .string (⟨#[]⟩ : ByteArray)] 53 (0, 0)) (kN BK163.out) NB163_168.out (by simp)); have n1_ := m_ (hb); have n2_ := m_ (hi); clear BK163; clear HB; clear HI168; have BK163 := n0_; have HB := n1_; have HI168 := n2_; clear n0_ n1_ n2_; (try clear hb); (try clear hb2); (try clear hk); (try clear hi)) | ((with_reducible refine gate_callee (f := 61) rfl ?_); refine goesL_ (some 29) rfl rfl Tryd.func61 (by kernel_rfl) rfl #[.pointer (some ⟨g168, 0, none⟩), .int .i64 2] rfl gl_ ?_; (with_reducible refine (impl_reader_number.calls kj2 g168 t170 t171 t172 t173 2 t174 t175 t176 t177 t178 w _ ?side1 ?side2 A12.out).mono ?_); (case side1 => repeat (first | (with_reducible first | exact HI168.out | apply IsS95.alloc | apply IsS95.drewN | apply IsS95.drew | apply IsS95.set_0 | apply IsS95.set_1 | apply IsS95.set_2 | apply IsS95.set_3 | refine IsS95.far ?_ NB168_163.out _) | exact HI168.out)); (case side2 => repeat (first | (with_reducible first | exact HB.out | apply below_alloc | apply pw_below_drewN | apply below_drew1 | refine below_set ?_ (IsS95.ge HI168.out) | refine below_set ?_ GE163.out) | exact HB.out)); rintro e w18 ⟨rfl, hi, hb, hk⟩; refine ⟨_, rfl, ?_⟩; have n0_ := m_ (KeepBut.blk hk (g' := gb163) (o := .cells #[.bool false, .int .i64 0, .int .i64 0, .string (⟨#[]⟩ : ByteArray)] 53 (0, 0)) (kN BK163.out) NB163_168.out (by simp)); have n1_ := m_ (hb); have n2_ := m_ (hi); clear BK163; clear HB; clear HI168; have BK163 := n0_; have HB := n1_; have HI168 := n2_; clear n0_ n1_ n2_; (try clear hb); (try clear hb2); (try clear hk); (try clear hi)) | ((with_reducible refine gate_callee (f := 61) rfl ?_); refine goesL_ (some 31) rfl rfl Tryd.func61 (by kernel_rfl) rfl #[.pointer (some ⟨g168, 0, none⟩), .int .i64 2] rfl gl_ ?_; (with_reducible refine (impl_reader_number.calls kj2 g168 t175 t176 t177 t178 2 t179 t180 t181 t182 t183 w _ ?side1 ?side2 A13.out).mono ?_); (case side1 => repeat (first | (with_reducible first | exact HI168.out | apply IsS95.alloc | apply IsS95.drewN | apply IsS95.drew | apply IsS95.set_0 | apply IsS95.set_1 | apply IsS95.set_2 | apply IsS95.set_3 | refine IsS95.far ?_ NB168_163.out _) | exact HI168.out)); (case side2 => repeat (first | (with_reducible first | exact HB.out | apply below_alloc | apply pw_below_drewN | apply below_drew1 | refine below_set ?_ (IsS95.ge HI168.out) | refine below_set ?_ GE163.out) | exact HB.out)); rintro e w19 ⟨rfl, hi, hb, hk⟩; refine ⟨_, rfl, ?_⟩; have n0_ := m_ (KeepBut.blk hk (g' := gb163) (o := .cells #[.bool false, .int .i64 0, .int .i64 0, .string (⟨#[]⟩ : ByteArray)] 53 (0, 0)) (kN BK163.out) NB163_168.out (by simp)); have n1_ := m_ (hb); have n2_ := m_ (hi); clear BK163; clear HB; clear HI168; have BK163 := n0_; have HB := n1_; have HI168 := n2_; clear n0_ n1_ n2_; (try clear hb); (try clear hb2); (try clear hk); (try clear hi)) | ((with_reducible refine gate_callee (f := 62) rfl ?_); refine goesL_ (some 35) rfl rfl Tryd.func62 (by kernel_rfl) rfl #[.pointer (some ⟨g168, 0, none⟩), .int .i64 (wrap64 (t179 + 1))] rfl gl_ ?_; (with_reducible refine (impl_reader_take.calls g168 t180 t181 t182 t183 (wrap64 (t179 + 1)) t184 t185 t186 t187 true w _ ?side1 ?side2 A14.out).mono ?_); (case side1 => repeat (first | (with_reducible first | exact HI168.out | apply IsS95.alloc | apply IsS95.drewN | apply IsS95.drew | apply IsS95.set_0 | apply IsS95.set_1 | apply IsS95.set_2 | apply IsS95.set_3 | refine IsS95.far ?_ NB168_163.out _) | exact HI168.out)); (case side2 => repeat (first | (with_reducible first | exact HB.out | apply below_alloc | apply pw_below_drewN | apply below_drew1 | refine below_set ?_ (IsS95.ge HI168.out) | refine below_set ?_ GE163.out) | exact HB.out)); rintro e w20 ⟨rfl, hi, hb, hk⟩; refine ⟨_, rfl, ?_⟩; have n0_ := m_ (KeepBut.blk hk (g' := gb163) (o := .cells #[.bool false, .int .i64 0, .int .i64 0, .string (⟨#[]⟩ : ByteArray)] 53 (0, 0)) (kN BK163.out) NB163_168.out (by simp)); have n1_ := m_ (hb); have n2_ := m_ (hi); clear BK163; clear HB; clear HI168; have BK163 := n0_; have HB := n1_; have HI168 := n2_; clear n0_ n1_ n2_; (try clear hb); (try clear hb2); (try clear hk); (try clear hi); obtain ⟨HGz21, hgz21⟩ := HI168.out; have hcz21_0 := cellS95_0 HGz21; have hcz21_1 := cellS95_1 HGz21; have hcz21_2 := cellS95_2 HGz21; have hcz21_3 := cellS95_3 HGz21; have hfz21_0 := blk_frozen HGz21 0; have hfz21_1 := blk_frozen HGz21 1; have hfz21_2 := blk_frozen HGz21 2; have hfz21_3 := blk_frozen HGz21 3; clear HGz21 hgz21; have hnb22 := NB163_168.out; have hnc22 := NB168_163.out; have hcz23_0 : w20.cell? ⟨gb163, 0, none⟩ = some (.bool false) := bc BK163 0; have hcz23_1 : w20.cell? ⟨gb163, 1, none⟩ = some (.int .i64 0) := bc BK163 1; have hcz23_2 : w20.cell? ⟨gb163, 2, none⟩ = some (.int .i64 0) := bc BK163 2; have hcz23_3 : w20.cell? ⟨gb163, 3, none⟩ = some (.string (⟨#[]⟩ : ByteArray)) := bc BK163 3; have hfz23_0 := blk_frozen BK163.out 0; have hfz23_1 := blk_frozen BK163.out 1; have hfz23_2 := blk_frozen BK163.out 2; have hfz23_3 := blk_frozen BK163.out 3))
       refine bodyPost_ret (results_ct rfl _ _ gb163 53 #[.bool false, .int .i64 0, .int .i64 0, .string (⟨#[]⟩ : ByteArray)] (0, 0) _ rfl (kP BK163.out) Tryd.underlying53 rfl (by kernel_rfl)) rfl ?_
       exact ⟨by first | rfl | (simp [errW_none, errW_some] <;> rfl) | (simp [*, errW_none, errW_some] <;> rfl), by repeat (first | (with_reducible first | exact HB.out | apply below_alloc | apply pw_below_drewN | apply below_drew1 | refine below_set ?_ (IsS95.ge HI168.out) | refine below_set ?_ GE163.out) | exact HB.out)⟩
      ·replace c15 := Bool.eq_false_iff.mpr c15
       subst c15
       have H1 : ((impl_PacketPut.f kj2 ((Go.bits .and .i64 t169 4096) != 0) (Go.bits .and .i64 t169 2047) (wrap64 (t174 - 49152)) t184).bind fun t190 => (if t190.toList = ([] : List UInt8) then (some (false, 0, 0, (⟨#[]⟩ : ByteArray), 0)) else ((strings_HasPrefix.f (a0.extract (a1 : Int).toNat a0.size) t190).bind fun t191 => (if t191 = true then (some (((Go.bits .and .i64 t169 4096) != 0), Go.bits .and .i64 t169 2047, wrap64 (t174 - 49152), t184, (t190.size : Int))) else (some (false, 0, 0, (⟨#[]⟩ : ByteArray), 0)))))) = some (r1, r2, r3, r4, r5) := by rw [if_neg (show ¬ (false = true) by decide)] at H; exact H
       clear H
       have H := H1
       clear H1
       replace H := Option.bind_eq_some_iff.mp H
       obtain ⟨t190, A240, H⟩ := H
       replace H : (if t190.toList = ([] : List UInt8) then (some (false, 0, 0, (⟨#[]⟩ : ByteArray), 0)) else ((strings_HasPrefix.f (a0.extract (a1 : Int).toNat a0.size) t190).bind fun t191 => (if t191 = true then (some (((Go.bits .and .i64 t169 4096) != 0), Go.bits .and .i64 t169 2047, wrap64 (t174 - 49152), t184, (t190.size : Int))) else (some (false, 0, 0, (⟨#[]⟩ : ByteArray), 0))))) = some (r1, r2, r3, r4, r5) := H
       have A24 := Aside0.mk A240
       clear A240
       by_cases c25 : t190.toList = ([] : List UInt8)
       ·rw [if_pos c25] at H
        have c25b0 : (t190.toList == ([] : List UInt8)) = true := beq_iff_eq.mpr c25
        try have c25b7 : t190.toList.isEmpty = true := (by rw [← c25b0]; cases t190.toList <;> rfl)
        have c25b1 : (t190.toList != ([] : List UInt8)) = false := bne_eq_false_iff_eq.mpr c25
        clear c25
        simp only [Option.some.injEq, Prod.mk.injEq] at H
        obtain ⟨rfl, rfl, rfl, rfl, rfl⟩ := H
        go_wp2_with (first | ((with_reducible refine gate_callee (f := 60) rfl ?_); refine goesL_ (some 25) rfl rfl Tryd.func60 (by kernel_rfl) rfl #[.string (a0.extract (a1 : Int).toNat a0.size)] rfl gl_ ?_; (with_reducible refine (impl_readerOf.calls (a0.extract (a1 : Int).toNat a0.size) t164 t165 t166 t167 w _ ?side1 A10.out).mono ?_); (case side1 => repeat (first | (with_reducible first | exact HB.out | apply below_alloc | apply pw_below_drewN | apply below_drew1 | refine below_set ?_ GE163.out) | exact HB.out)); rintro e w26 ⟨g168, rfl, hi, hb, hb2⟩; refine ⟨_, rfl, ?_⟩; have n0_ := m_ (blk_below (g := gb163) (o := .cells #[.bool false, .int .i64 0, .int .i64 0, .string (⟨#[]⟩ : ByteArray)] 53 (0, 0)) (kN BK163.out) hb2); have n1_ := m_ (hb); have n2_ := m_ (hi); have n3_ := m_ (IsS95.ne_blk hi (blk_below (g := gb163) (o := .cells #[.bool false, .int .i64 0, .int .i64 0, .string (⟨#[]⟩ : ByteArray)] 53 (0, 0)) (kN BK163.out) hb2) (by decide)); have n4_ := m_ (Ne.symm (IsS95.ne_blk hi (blk_below (g := gb163) (o := .cells #[.bool false, .int .i64 0, .int .i64 0, .string (⟨#[]⟩ : ByteArray)] 53 (0, 0)) (kN BK163.out) hb2) (by decide))); clear BK163; clear HB; have BK163 := n0_; have HB := n1_; have HI168 := n2_; have NB168_163 := n3_; have NB163_168 := n4_; clear n0_ n1_ n2_ n3_ n4_; (try clear hb); (try clear hb2); (try clear hk); (try clear hi)) | ((with_reducible refine gate_callee (f := 61) rfl ?_); refine goesL_ (some 27) rfl rfl Tryd.func61 (by kernel_rfl) rfl #[.pointer (some ⟨g168, 0, none⟩), .int .i64 2] rfl gl_ ?_; (with_reducible refine (impl_reader_number.calls kj2 g168 t164 t165 t166 t167 2 t169 t170 t171 t172 t173 w _ ?side1 ?side2 A11.out).mono ?_); (case side1 => repeat (first | (with_reducible first | exact HI168.out | apply IsS95.alloc | apply IsS95.drewN | apply IsS95.drew | apply IsS95.set_0 | apply IsS95.set_1 | apply IsS95.set_2 | apply IsS95.set_3 | refine IsS95.far ?_ NB168_163.out _) | exact HI168.out)); (case side2 => repeat (first | (with_reducible first | exact HB.out | apply below_alloc | apply pw_below_drewN | apply below_drew1 | refine below_set ?_ (IsS95.ge HI168.out) | refine below_set ?_ GE163.out) | exact HB.out)); rintro e w27 ⟨rfl, hi, hb, hk⟩; refine ⟨_, rfl, ?_⟩; have n0_ := m_ (KeepBut.blk hk (g' := gb163) (o := .cells #[.bool false, .int .i64 0, .int .i64 0, .string (⟨#[]⟩ : ByteArray)] 53 (0, 0)) (kN BK163.out) NB163_168.out (by simp)); have n1_ := m_ (hb); have n2_ := m_ (hi); clear BK163; clear HB; clear HI168; have BK163 := n0_; have HB := n1_; have HI168 := n2_; clear n0_ n1_ n2_; (try clear hb); (try clear hb2); (try clear hk); (try clear hi)) | ((with_reducible refine gate_callee (f := 61) rfl ?_); refine goesL_ (some 29) rfl rfl Tryd.func61 (by kernel_rfl) rfl #[.pointer (some ⟨g168, 0, none⟩), .int .i64 2] rfl gl_ ?_; (with_reducible refine (impl_reader_number.calls kj2 g168 t170 t171 t172 t173 2 t174 t175 t176 t177 t178 w _ ?side1 ?side2 A12.out).mono ?_); (case side1 => repeat (first | (with_reducible first | exact HI168.out | apply IsS95.alloc | apply IsS95.drewN | apply IsS95.drew | apply IsS95.set_0 | apply IsS95.set_1 | apply IsS95.set_2 | apply IsS95.set_3 | refine IsS95.far ?_ NB168_163.out _) | exact HI168.out)); (case side2 => repeat (first | (with_reducible first | exact HB.out | apply below_alloc | apply pw_below_drewN | apply below_drew1 | refine below_set ?_ (IsS95.ge HI168.out) | refine below_set ?_ GE163.out) | exact HB.out)); rintro e w28 ⟨rfl, hi, hb, hk⟩; refine ⟨_, rfl, ?_⟩; have n0_ := m_ (KeepBut.blk hk (g' := gb163) (o := .cells #[.bool false, .int .i64 0, .int .i64 0, .string (⟨#[]⟩ : ByteArray)] 53 (0, 0)) (kN BK163.out) NB163_168.out (by simp)); have n1_ := m_ (hb); have n2_ := m_ (hi); clear BK163; clear HB; clear HI168; have BK163 := n0_; have HB := n1_; have HI168 := n2_; clear n0_ n1_ n2_; (try clear hb); (try clear hb2); (try clear hk); (try clear hi)) | ((with_reducible refine gate_callee (f := 61) rfl ?_); refine goesL_ (some 31) rfl rfl Tryd.func61 (by kernel_rfl) rfl #[.pointer (some ⟨g168, 0, none⟩), .int .i64 2] rfl gl_ ?_; (with_reducible refine (impl_reader_number.calls kj2 g168 t175 t176 t177 t178 2 t179 t180 t181 t182 t183 w _ ?side1 ?side2 A13.out).mono ?_); (case side1 => repeat (first | (with_reducible first | exact HI168.out | apply IsS95.alloc | apply IsS95.drewN | apply IsS95.drew | apply IsS95.set_0 | apply IsS95.set_1 | apply IsS95.set_2 | apply IsS95.set_3 | refine IsS95.far ?_ NB168_163.out _) | exact HI168.out)); (case side2 => repeat (first | (with_reducible first | exact HB.out | apply below_alloc | apply pw_below_drewN | apply below_drew1 | refine below_set ?_ (IsS95.ge HI168.out) | refine below_set ?_ GE163.out) | exact HB.out)); rintro e w29 ⟨rfl, hi, hb, hk⟩; refine ⟨_, rfl, ?_⟩; have n0_ := m_ (KeepBut.blk hk (g' := gb163) (o := .cells #[.bool false, .int .i64 0, .int .i64 0, .string (⟨#[]⟩ : ByteArray)] 53 (0, 0)) (kN BK163.out) NB163_168.out (by simp)); have n1_ := m_ (hb); have n2_ := m_ (hi); clear BK163; clear HB; clear HI168; have BK163 := n0_; have HB := n1_; have HI168 := n2_; clear n0_ n1_ n2_; (try clear hb); (try clear hb2); (try clear hk); (try clear hi)) | ((with_reducible refine gate_callee (f := 62) rfl ?_); refine goesL_ (some 35) rfl rfl Tryd.func62 (by kernel_rfl) rfl #[.pointer (some ⟨g168, 0, none⟩), .int .i64 (wrap64 (t179 + 1))] rfl gl_ ?_; (with_reducible refine (impl_reader_take.calls g168 t180 t181 t182 t183 (wrap64 (t179 + 1)) t184 t185 t186 t187 false w _ ?side1 ?side2 A14.out).mono ?_); (case side1 => repeat (first | (with_reducible first | exact HI168.out | apply IsS95.alloc | apply IsS95.drewN | apply IsS95.drew | apply IsS95.set_0 | apply IsS95.set_1 | apply IsS95.set_2 | apply IsS95.set_3 | refine IsS95.far ?_ NB168_163.out _) | exact HI168.out)); (case side2 => repeat (first | (with_reducible first | exact HB.out | apply below_alloc | apply pw_below_drewN | apply below_drew1 | refine below_set ?_ (IsS95.ge HI168.out) | refine below_set ?_ GE163.out) | exact HB.out)); rintro e w30 ⟨rfl, hi, hb, hk⟩; refine ⟨_, rfl, ?_⟩; have n0_ := m_ (KeepBut.blk hk (g' := gb163) (o := .cells #[.bool false, .int .i64 0, .int .i64 0, .string (⟨#[]⟩ : ByteArray)] 53 (0, 0)) (kN BK163.out) NB163_168.out (by simp)); have n1_ := m_ (hb); have n2_ := m_ (hi); clear BK163; clear HB; clear HI168; have BK163 := n0_; have HB := n1_; have HI168 := n2_; clear n0_ n1_ n2_; (try clear hb); (try clear hb2); (try clear hk); (try clear hi); obtain ⟨HGz31, hgz31⟩ := HI168.out; have hcz31_0 := cellS95_0 HGz31; have hcz31_1 := cellS95_1 HGz31; have hcz31_2 := cellS95_2 HGz31; have hcz31_3 := cellS95_3 HGz31; have hfz31_0 := blk_frozen HGz31 0; have hfz31_1 := blk_frozen HGz31 1; have hfz31_2 := blk_frozen HGz31 2; have hfz31_3 := blk_frozen HGz31 3; clear HGz31 hgz31) | ((with_reducible refine gate_dst (N := 11) rfl ?_); (try (refine gate_guard (by rfl) ?_; dsimp only)); refine box_event ?hg (N := 11) ?hd (cs := #[.bool false, .int .i64 0, .int .i64 0, .string (⟨#[]⟩ : ByteArray)]) (t := 53) ?hr ?_; (case hd => rfl); (case hg => rfl); (case hr => first | (go_simp; done) | (go_simp; rfl)); intro gb189 hg w32 hbox hb; have n0_ := m_ (blk_below (g := gb163) (o := .cells #[.bool false, .int .i64 0, .int .i64 0, .string (⟨#[]⟩ : ByteArray)] 53 (0, 0)) (kN BK163.out) hb); have n1_ := m_ (IsS95.below (by repeat (first | (with_reducible first | exact HI168.out | apply IsS95.alloc | apply IsS95.drewN | apply IsS95.drew | apply IsS95.set_0 | apply IsS95.set_1 | apply IsS95.set_2 | apply IsS95.set_3 | refine IsS95.far ?_ NB168_163.out _) | exact HI168.out)) hb); have n2_ := m_ (below_step (by repeat (first | (with_reducible first | exact HB.out | apply below_alloc | apply pw_below_drewN | apply below_drew1 | refine below_set ?_ (IsS95.ge HI168.out) | refine below_set ?_ GE163.out) | exact HB.out)) hb); have n3_ := m_ (hbox); have n4_ := m_ ((by rw [hg]; exact (below_size (by repeat (first | (with_reducible first | exact HB.out | apply below_alloc | apply pw_below_drewN | apply below_drew1 | refine below_set ?_ (IsS95.ge HI168.out) | refine below_set ?_ GE163.out) | exact HB.out))) : w.heap.size ≤ gb189)); have n5_ := m_ ((by rw [hg]; exact (below_size (by repeat (first | (with_reducible first | exact HB.out | apply below_alloc | apply pw_below_drewN | apply below_drew1 | refine below_set ?_ (IsS95.ge HI168.out) | refine below_set ?_ GE163.out) | exact HB.out))) : w.heap.size ≤ gb189)); have n6_ := m_ ((by rw [hg]; exact Nat.ne_of_lt (blk_lt (g := gb163) (o := .cells #[.bool false, .int .i64 0, .int .i64 0, .string (⟨#[]⟩ : ByteArray)] 53 (0, 0)) (kN BK163.out)) : gb163 ≠ gb189)); have n7_ := m_ ((by rw [hg]; exact Nat.ne_of_gt (blk_lt (g := gb163) (o := .cells #[.bool false, .int .i64 0, .int .i64 0, .string (⟨#[]⟩ : ByteArray)] 53 (0, 0)) (kN BK163.out)) : gb189 ≠ gb163)); have n8_ := m_ ((by rw [hg]; exact Nat.ne_of_lt (IsS95.lt (show IsS95 w _ g168 t185 t186 t187 false from by repeat (first | (with_reducible first | exact HI168.out | apply IsS95.alloc | apply IsS95.drewN | apply IsS95.drew | apply IsS95.set_0 | apply IsS95.set_1 | apply IsS95.set_2 | apply IsS95.set_3 | refine IsS95.far ?_ NB168_163.out _) | exact HI168.out))) : g168 ≠ gb189)); have n9_ := m_ ((by rw [hg]; exact Nat.ne_of_gt (IsS95.lt (show IsS95 w _ g168 t185 t186 t187 false from by repeat (first | (with_reducible first | exact HI168.out | apply IsS95.alloc | apply IsS95.drewN | apply IsS95.drew | apply IsS95.set_0 | apply IsS95.set_1 | apply IsS95.set_2 | apply IsS95.set_3 | refine IsS95.far ?_ NB168_163.out _) | exact HI168.out))) : gb189 ≠ g168)); clear BK163; clear HI168; clear HB; have BK163 := n0_; have HI168 := n1_; have HB := n2_; have BK189 := n3_; have GW189 := n4_; have GE189 := n5_; have NB163_189 := n6_; have NB189_163 := n7_; have NB168_189 := n8_; have NB189_168 := n9_; clear n0_ n1_ n2_ n3_ n4_ n5_ n6_ n7_ n8_ n9_; clear hb hbox hg; have hnb33 := NB189_163.out; have hnc33 := NB163_189.out; have hnb34 := NB189_168.out; have hnc34 := NB168_189.out; have hcz35_0 : w32.cell? ⟨gb189, 0, none⟩ = some (.bool false) := bc BK189 0; have hcz35_1 : w32.cell? ⟨gb189, 1, none⟩ = some (.int .i64 0) := bc BK189 1; have hcz35_2 : w32.cell? ⟨gb189, 2, none⟩ = some (.int .i64 0) := bc BK189 2; have hcz35_3 : w32.cell? ⟨gb189, 3, none⟩ = some (.string (⟨#[]⟩ : ByteArray)) := bc BK189 3; have hfz35_0 := blk_frozen BK189.out 0; have hfz35_1 := blk_frozen BK189.out 1; have hfz35_2 := blk_frozen BK189.out 2; have hfz35_3 := blk_frozen BK189.out 3) | ((with_reducible refine gate_callee (f := 63) rfl ?_); refine goesL_ (some 51) rfl rfl Tryd.func63 (by kernel_rfl) rfl #[.agg #[.bool ((Go.bits .and .i64 t169 4096) != 0), .int .i64 (Go.bits .and .i64 t169 2047), .int .i64 (wrap64 (t174 - 49152)), .string t184]] rfl gl_ ?_; (with_reducible refine (impl_PacketPut.calls kj2 ((Go.bits .and .i64 t169 4096) != 0) (Go.bits .and .i64 t169 2047) (wrap64 (t174 - 49152)) t184 t190 _ A24.out).mono ?_); rintro e w36 ⟨rfl, hb⟩; refine ⟨_, rfl, ?_⟩; have n0_ := m_ (blk_below (g := gb163) (o := .cells #[.bool false, .int .i64 0, .int .i64 0, .string (⟨#[]⟩ : ByteArray)] 53 (0, 0)) (kF BK163.out NB163_189.out) hb); have n1_ := m_ (IsS95.below (show IsS95 w ((((w32.setCell ⟨gb189, 0, none⟩ (.bool ((Go.bits .and .i64 t169 4096) != 0))).setCell ⟨gb189, 1, none⟩ (.int .i64 (Go.bits .and .i64 t169 2047))).setCell ⟨gb189, 2, none⟩ (.int .i64 (wrap64 (t174 - 49152)))).setCell ⟨gb189, 3, none⟩ (.string t184)) g168 t185 t186 t187 false from by repeat (first | (with_reducible first | exact HI168.out | apply IsS95.alloc | apply IsS95.drewN | apply IsS95.drew | apply IsS95.set_0 | apply IsS95.set_1 | apply IsS95.set_2 | apply IsS95.set_3 | refine IsS95.far ?_ NB168_163.out _ | refine IsS95.far ?_ NB168_189.out _) | exact HI168.out)) hb); have n2_ := m_ (blk_below (g := gb189) (o := .cells #[.bool ((Go.bits .and .i64 t169 4096) != 0), .int .i64 (Go.bits .and .i64 t169 2047), .int .i64 (wrap64 (t174 - 49152)), .string t184] 53 (0, 0)) (kP BK189.out) hb); have n3_ := m_ (below_step (by repeat (first | (with_reducible first | exact HB.out | apply below_alloc | apply pw_below_drewN | apply below_drew1 | refine below_set ?_ (IsS95.ge HI168.out) | refine below_set ?_ GE163.out | refine below_set ?_ GE189.out) | exact HB.out)) hb); clear BK163; clear HI168; clear BK189; clear HB; have BK163 := n0_; have HI168 := n1_; have BK189 := n2_; have HB := n3_; clear n0_ n1_ n2_ n3_; (try clear hb); (try clear hb2); (try clear hk); (try clear hi); have hnb37 := NB163_168.out; have hnc37 := NB168_163.out; have hcz38_0 : w36.cell? ⟨gb163, 0, none⟩ = some (.bool false) := bc BK163 0; have hcz38_1 : w36.cell? ⟨gb163, 1, none⟩ = some (.int .i64 0) := bc BK163 1; have hcz38_2 : w36.cell? ⟨gb163, 2, none⟩ = some (.int .i64 0) := bc BK163 2; have hcz38_3 : w36.cell? ⟨gb163, 3, none⟩ = some (.string (⟨#[]⟩ : ByteArray)) := bc BK163 3; have hfz38_0 := blk_frozen BK163.out 0; have hfz38_1 := blk_frozen BK163.out 1; have hfz38_2 := blk_frozen BK163.out 2; have hfz38_3 := blk_frozen BK163.out 3))
        refine bodyPost_ret (results_ct rfl _ _ gb163 53 #[.bool false, .int .i64 0, .int .i64 0, .string (⟨#[]⟩ : ByteArray)] (0, 0) _ rfl (kP BK163.out) Tryd.underlying53 rfl (by kernel_rfl)) rfl ?_
        exact ⟨by first | rfl | (simp [errW_none, errW_some] <;> rfl) | (simp [*, errW_none, errW_some] <;> rfl), by repeat (first | (with_reducible first | exact HB.out | apply below_alloc | apply pw_below_drewN | apply below_drew1 | refine below_set ?_ (IsS95.ge HI168.out) | refine below_set ?_ GE163.out | refine below_set ?_ GE189.out) | exact HB.out)⟩
       ·rw [if_neg c25] at H
        have c25b0 : (t190.toList == ([] : List UInt8)) = false := beq_eq_false_iff_ne.mpr c25
        try have c25b7 : t190.toList.isEmpty = false := (by rw [← c25b0]; cases t190.toList <;> rfl)
        have c25b1 : (t190.toList != ([] : List UInt8)) = true := bne_iff_ne.mpr c25
        have c39b0 := eq_true (of_decide_eq_true (by first | (with_reducible assumption) | assumption) : 0 ≤ a1)
        have c40b0 := eq_true (of_decide_eq_true (by first | (with_reducible assumption) | assumption) : a1 ≤ (a0.size : Int))
        replace H := Option.bind_eq_some_iff.mp H
        obtain ⟨t191, A410, H⟩ := H
        replace H : (if t191 = true then (some (((Go.bits .and .i64 t169 4096) != 0), Go.bits .and .i64 t169 2047, wrap64 (t174 - 49152), t184, (t190.size : Int))) else (some (false, 0, 0, (⟨#[]⟩ : ByteArray), 0))) = some (r1, r2, r3, r4, r5) := H
        have A41 := Aside0.mk A410
        clear A410
        by_cases c42 : t191 = true
        ·subst c42
         have H1 : (some (((Go.bits .and .i64 t169 4096) != 0), Go.bits .and .i64 t169 2047, wrap64 (t174 - 49152), t184, (t190.size : Int))) = some (r1, r2, r3, r4, r5) := by rw [if_pos rfl] at H; exact H
         clear H
         have H := H1
         clear H1
         simp only [Option.some.injEq, Prod.mk.injEq] at H
         obtain ⟨rfl, rfl, rfl, rfl, rfl⟩ := H
         go_wp2_with (first | ((with_reducible refine gate_callee (f := 60) rfl ?_); refine goesL_ (some 25) rfl rfl Tryd.func60 (by kernel_rfl) rfl #[.string (a0.extract (a1 : Int).toNat a0.size)] rfl gl_ ?_; (with_reducible refine (impl_readerOf.calls (a0.extract (a1 : Int).toNat a0.size) t164 t165 t166 t167 w _ ?side1 A10.out).mono ?_); (case side1 => repeat (first | (with_reducible first | exact HB.out | apply below_alloc | apply pw_below_drewN | apply below_drew1 | refine below_set ?_ GE163.out) | exact HB.out)); rintro e w43 ⟨g168, rfl, hi, hb, hb2⟩; refine ⟨_, rfl, ?_⟩; have n0_ := m_ (blk_below (g := gb163) (o := .cells #[.bool false, .int .i64 0, .int .i64 0, .string (⟨#[]⟩ : ByteArray)] 53 (0, 0)) (kN BK163.out) hb2); have n1_ := m_ (hb); have n2_ := m_ (hi); have n3_ := m_ (IsS95.ne_blk hi (blk_below (g := gb163) (o := .cells #[.bool false, .int .i64 0, .int .i64 0, .string (⟨#[]⟩ : ByteArray)] 53 (0, 0)) (kN BK163.out) hb2) (by decide)); have n4_ := m_ (Ne.symm (IsS95.ne_blk hi (blk_below (g := gb163) (o := .cells #[.bool false, .int .i64 0, .int .i64 0, .string (⟨#[]⟩ : ByteArray)] 53 (0, 0)) (kN BK163.out) hb2) (by decide))); clear BK163; clear HB; have BK163 := n0_; have HB := n1_; have HI168 := n2_; have NB168_163 := n3_; have NB163_168 := n4_; clear n0_ n1_ n2_ n3_ n4_; (try clear hb); (try clear hb2); (try clear hk); (try clear hi)) | ((with_reducible refine gate_callee (f := 61) rfl ?_); refine goesL_ (some 27) rfl rfl Tryd.func61 (by kernel_rfl) rfl #[.pointer (some ⟨g168, 0, none⟩), .int .i64 2] rfl gl_ ?_; (with_reducible refine (impl_reader_number.calls kj2 g168 t164 t165 t166 t167 2 t169 t170 t171 t172 t173 w _ ?side1 ?side2 A11.out).mono ?_); (case side1 => repeat (first | (with_reducible first | exact HI168.out | apply IsS95.alloc | apply IsS95.drewN | apply IsS95.drew | apply IsS95.set_0 | apply IsS95.set_1 | apply IsS95.set_2 | apply IsS95.set_3 | refine IsS95.far ?_ NB168_163.out _) | exact HI168.out)); (case side2 => repeat (first | (with_reducible first | exact HB.out | apply below_alloc | apply pw_below_drewN | apply below_drew1 | refine below_set ?_ (IsS95.ge HI168.out) | refine below_set ?_ GE163.out) | exact HB.out)); rintro e w44 ⟨rfl, hi, hb, hk⟩; refine ⟨_, rfl, ?_⟩; have n0_ := m_ (KeepBut.blk hk (g' := gb163) (o := .cells #[.bool false, .int .i64 0, .int .i64 0, .string (⟨#[]⟩ : ByteArray)] 53 (0, 0)) (kN BK163.out) NB163_168.out (by simp)); have n1_ := m_ (hb); have n2_ := m_ (hi); clear BK163; clear HB; clear HI168; have BK163 := n0_; have HB := n1_; have HI168 := n2_; clear n0_ n1_ n2_; (try clear hb); (try clear hb2); (try clear hk); (try clear hi)) | ((with_reducible refine gate_callee (f := 61) rfl ?_); refine goesL_ (some 29) rfl rfl Tryd.func61 (by kernel_rfl) rfl #[.pointer (some ⟨g168, 0, none⟩), .int .i64 2] rfl gl_ ?_; (with_reducible refine (impl_reader_number.calls kj2 g168 t170 t171 t172 t173 2 t174 t175 t176 t177 t178 w _ ?side1 ?side2 A12.out).mono ?_); (case side1 => repeat (first | (with_reducible first | exact HI168.out | apply IsS95.alloc | apply IsS95.drewN | apply IsS95.drew | apply IsS95.set_0 | apply IsS95.set_1 | apply IsS95.set_2 | apply IsS95.set_3 | refine IsS95.far ?_ NB168_163.out _) | exact HI168.out)); (case side2 => repeat (first | (with_reducible first | exact HB.out | apply below_alloc | apply pw_below_drewN | apply below_drew1 | refine below_set ?_ (IsS95.ge HI168.out) | refine below_set ?_ GE163.out) | exact HB.out)); rintro e w45 ⟨rfl, hi, hb, hk⟩; refine ⟨_, rfl, ?_⟩; have n0_ := m_ (KeepBut.blk hk (g' := gb163) (o := .cells #[.bool false, .int .i64 0, .int .i64 0, .string (⟨#[]⟩ : ByteArray)] 53 (0, 0)) (kN BK163.out) NB163_168.out (by simp)); have n1_ := m_ (hb); have n2_ := m_ (hi); clear BK163; clear HB; clear HI168; have BK163 := n0_; have HB := n1_; have HI168 := n2_; clear n0_ n1_ n2_; (try clear hb); (try clear hb2); (try clear hk); (try clear hi)) | ((with_reducible refine gate_callee (f := 61) rfl ?_); refine goesL_ (some 31) rfl rfl Tryd.func61 (by kernel_rfl) rfl #[.pointer (some ⟨g168, 0, none⟩), .int .i64 2] rfl gl_ ?_; (with_reducible refine (impl_reader_number.calls kj2 g168 t175 t176 t177 t178 2 t179 t180 t181 t182 t183 w _ ?side1 ?side2 A13.out).mono ?_); (case side1 => repeat (first | (with_reducible first | exact HI168.out | apply IsS95.alloc | apply IsS95.drewN | apply IsS95.drew | apply IsS95.set_0 | apply IsS95.set_1 | apply IsS95.set_2 | apply IsS95.set_3 | refine IsS95.far ?_ NB168_163.out _) | exact HI168.out)); (case side2 => repeat (first | (with_reducible first | exact HB.out | apply below_alloc | apply pw_below_drewN | apply below_drew1 | refine below_set ?_ (IsS95.ge HI168.out) | refine below_set ?_ GE163.out) | exact HB.out)); rintro e w46 ⟨rfl, hi, hb, hk⟩; refine ⟨_, rfl, ?_⟩; have n0_ := m_ (KeepBut.blk hk (g' := gb163) (o := .cells #[.bool false, .int .i64 0, .int .i64 0, .string (⟨#[]⟩ : ByteArray)] 53 (0, 0)) (kN BK163.out) NB163_168.out (by simp)); have n1_ := m_ (hb); have n2_ := m_ (hi); clear BK163; clear HB; clear HI168; have BK163 := n0_; have HB := n1_; have HI168 := n2_; clear n0_ n1_ n2_; (try clear hb); (try clear hb2); (try clear hk); (try clear hi)) | ((with_reducible refine gate_callee (f := 62) rfl ?_); refine goesL_ (some 35) rfl rfl Tryd.func62 (by kernel_rfl) rfl #[.pointer (some ⟨g168, 0, none⟩), .int .i64 (wrap64 (t179 + 1))] rfl gl_ ?_; (with_reducible refine (impl_reader_take.calls g168 t180 t181 t182 t183 (wrap64 (t179 + 1)) t184 t185 t186 t187 false w _ ?side1 ?side2 A14.out).mono ?_); (case side1 => repeat (first | (with_reducible first | exact HI168.out | apply IsS95.alloc | apply IsS95.drewN | apply IsS95.drew | apply IsS95.set_0 | apply IsS95.set_1 | apply IsS95.set_2 | apply IsS95.set_3 | refine IsS95.far ?_ NB168_163.out _) | exact HI168.out)); (case side2 => repeat (first | (with_reducible first | exact HB.out | apply below_alloc | apply pw_below_drewN | apply below_drew1 | refine below_set ?_ (IsS95.ge HI168.out) | refine below_set ?_ GE163.out) | exact HB.out)); rintro e w47 ⟨rfl, hi, hb, hk⟩; refine ⟨_, rfl, ?_⟩; have n0_ := m_ (KeepBut.blk hk (g' := gb163) (o := .cells #[.bool false, .int .i64 0, .int .i64 0, .string (⟨#[]⟩ : ByteArray)] 53 (0, 0)) (kN BK163.out) NB163_168.out (by simp)); have n1_ := m_ (hb); have n2_ := m_ (hi); clear BK163; clear HB; clear HI168; have BK163 := n0_; have HB := n1_; have HI168 := n2_; clear n0_ n1_ n2_; (try clear hb); (try clear hb2); (try clear hk); (try clear hi); obtain ⟨HGz48, hgz48⟩ := HI168.out; have hcz48_0 := cellS95_0 HGz48; have hcz48_1 := cellS95_1 HGz48; have hcz48_2 := cellS95_2 HGz48; have hcz48_3 := cellS95_3 HGz48; have hfz48_0 := blk_frozen HGz48 0; have hfz48_1 := blk_frozen HGz48 1; have hfz48_2 := blk_frozen HGz48 2; have hfz48_3 := blk_frozen HGz48 3; clear HGz48 hgz48) | ((with_reducible refine gate_dst (N := 11) rfl ?_); (try (refine gate_guard (by rfl) ?_; dsimp only)); refine box_event ?hg (N := 11) ?hd (cs := #[.bool false, .int .i64 0, .int .i64 0, .string (⟨#[]⟩ : ByteArray)]) (t := 53) ?hr ?_; (case hd => rfl); (case hg => rfl); (case hr => first | (go_simp; done) | (go_simp; rfl)); intro gb189 hg w49 hbox hb; have n0_ := m_ (blk_below (g := gb163) (o := .cells #[.bool false, .int .i64 0, .int .i64 0, .string (⟨#[]⟩ : ByteArray)] 53 (0, 0)) (kN BK163.out) hb); have n1_ := m_ (IsS95.below (by repeat (first | (with_reducible first | exact HI168.out | apply IsS95.alloc | apply IsS95.drewN | apply IsS95.drew | apply IsS95.set_0 | apply IsS95.set_1 | apply IsS95.set_2 | apply IsS95.set_3 | refine IsS95.far ?_ NB168_163.out _) | exact HI168.out)) hb); have n2_ := m_ (below_step (by repeat (first | (with_reducible first | exact HB.out | apply below_alloc | apply pw_below_drewN | apply below_drew1 | refine below_set ?_ (IsS95.ge HI168.out) | refine below_set ?_ GE163.out) | exact HB.out)) hb); have n3_ := m_ (hbox); have n4_ := m_ ((by rw [hg]; exact (below_size (by repeat (first | (with_reducible first | exact HB.out | apply below_alloc | apply pw_below_drewN | apply below_drew1 | refine below_set ?_ (IsS95.ge HI168.out) | refine below_set ?_ GE163.out) | exact HB.out))) : w.heap.size ≤ gb189)); have n5_ := m_ ((by rw [hg]; exact (below_size (by repeat (first | (with_reducible first | exact HB.out | apply below_alloc | apply pw_below_drewN | apply below_drew1 | refine below_set ?_ (IsS95.ge HI168.out) | refine below_set ?_ GE163.out) | exact HB.out))) : w.heap.size ≤ gb189)); have n6_ := m_ ((by rw [hg]; exact Nat.ne_of_lt (blk_lt (g := gb163) (o := .cells #[.bool false, .int .i64 0, .int .i64 0, .string (⟨#[]⟩ : ByteArray)] 53 (0, 0)) (kN BK163.out)) : gb163 ≠ gb189)); have n7_ := m_ ((by rw [hg]; exact Nat.ne_of_gt (blk_lt (g := gb163) (o := .cells #[.bool false, .int .i64 0, .int .i64 0, .string (⟨#[]⟩ : ByteArray)] 53 (0, 0)) (kN BK163.out)) : gb189 ≠ gb163)); have n8_ := m_ ((by rw [hg]; exact Nat.ne_of_lt (IsS95.lt (show IsS95 w _ g168 t185 t186 t187 false from by repeat (first | (with_reducible first | exact HI168.out | apply IsS95.alloc | apply IsS95.drewN | apply IsS95.drew | apply IsS95.set_0 | apply IsS95.set_1 | apply IsS95.set_2 | apply IsS95.set_3 | refine IsS95.far ?_ NB168_163.out _) | exact HI168.out))) : g168 ≠ gb189)); have n9_ := m_ ((by rw [hg]; exact Nat.ne_of_gt (IsS95.lt (show IsS95 w _ g168 t185 t186 t187 false from by repeat (first | (with_reducible first | exact HI168.out | apply IsS95.alloc | apply IsS95.drewN | apply IsS95.drew | apply IsS95.set_0 | apply IsS95.set_1 | apply IsS95.set_2 | apply IsS95.set_3 | refine IsS95.far ?_ NB168_163.out _) | exact HI168.out))) : gb189 ≠ g168)); clear BK163; clear HI168; clear HB; have BK163 := n0_; have HI168 := n1_; have HB := n2_; have BK189 := n3_; have GW189 := n4_; have GE189 := n5_; have NB163_189 := n6_; have NB189_163 := n7_; have NB168_189 := n8_; have NB189_168 := n9_; clear n0_ n1_ n2_ n3_ n4_ n5_ n6_ n7_ n8_ n9_; clear hb hbox hg; have hnb50 := NB189_163.out; have hnc50 := NB163_189.out; have hnb51 := NB189_168.out; have hnc51 := NB168_189.out; have hcz52_0 : w49.cell? ⟨gb189, 0, none⟩ = some (.bool false) := bc BK189 0; have hcz52_1 : w49.cell? ⟨gb189, 1, none⟩ = some (.int .i64 0) := bc BK189 1; have hcz52_2 : w49.cell? ⟨gb189, 2, none⟩ = some (.int .i64 0) := bc BK189 2; have hcz52_3 : w49.cell? ⟨gb189, 3, none⟩ = some (.string (⟨#[]⟩ : ByteArray)) := bc BK189 3; have hfz52_0 := blk_frozen BK189.out 0; have hfz52_1 := blk_frozen BK189.out 1; have hfz52_2 := blk_frozen BK189.out 2; have hfz52_3 := blk_frozen BK189.out 3) | ((with_reducible refine gate_callee (f := 63) rfl ?_); refine goesL_ (some 51) rfl rfl Tryd.func63 (by kernel_rfl) rfl #[.agg #[.bool ((Go.bits .and .i64 t169 4096) != 0), .int .i64 (Go.bits .and .i64 t169 2047), .int .i64 (wrap64 (t174 - 49152)), .string t184]] rfl gl_ ?_; (with_reducible refine (impl_PacketPut.calls kj2 ((Go.bits .and .i64 t169 4096) != 0) (Go.bits .and .i64 t169 2047) (wrap64 (t174 - 49152)) t184 t190 _ A24.out).mono ?_); rintro e w53 ⟨rfl, hb⟩; refine ⟨_, rfl, ?_⟩; have n0_ := m_ (blk_below (g := gb163) (o := .cells #[.bool false, .int .i64 0, .int .i64 0, .string (⟨#[]⟩ : ByteArray)] 53 (0, 0)) (kF BK163.out NB163_189.out) hb); have n1_ := m_ (IsS95.below (show IsS95 w ((((w49.setCell ⟨gb189, 0, none⟩ (.bool ((Go.bits .and .i64 t169 4096) != 0))).setCell ⟨gb189, 1, none⟩ (.int .i64 (Go.bits .and .i64 t169 2047))).setCell ⟨gb189, 2, none⟩ (.int .i64 (wrap64 (t174 - 49152)))).setCell ⟨gb189, 3, none⟩ (.string t184)) g168 t185 t186 t187 false from by repeat (first | (with_reducible first | exact HI168.out | apply IsS95.alloc | apply IsS95.drewN | apply IsS95.drew | apply IsS95.set_0 | apply IsS95.set_1 | apply IsS95.set_2 | apply IsS95.set_3 | refine IsS95.far ?_ NB168_163.out _ | refine IsS95.far ?_ NB168_189.out _) | exact HI168.out)) hb); have n2_ := m_ (blk_below (g := gb189) (o := .cells #[.bool ((Go.bits .and .i64 t169 4096) != 0), .int .i64 (Go.bits .and .i64 t169 2047), .int .i64 (wrap64 (t174 - 49152)), .string t184] 53 (0, 0)) (kP BK189.out) hb); have n3_ := m_ (below_step (by repeat (first | (with_reducible first | exact HB.out | apply below_alloc | apply pw_below_drewN | apply below_drew1 | refine below_set ?_ (IsS95.ge HI168.out) | refine below_set ?_ GE163.out | refine below_set ?_ GE189.out) | exact HB.out)) hb); clear BK163; clear HI168; clear BK189; clear HB; have BK163 := n0_; have HI168 := n1_; have BK189 := n2_; have HB := n3_; clear n0_ n1_ n2_ n3_; (try clear hb); (try clear hb2); (try clear hk); (try clear hi)) | (go_at_call 64; (with_reducible refine (strings_HasPrefix.calls (a0.extract (a1 : Int).toNat a0.size) t190 true _ A41.out).mono ?_); rintro e w' ⟨rfl, ⟨nd, rfl⟩⟩; (try (rw [drewN_self w53]; generalize hq_ : World.drewN w53 _ = w53; have n0_ : Aside0 (w53.heap[gb163]? = some (.cells #[.bool false, .int .i64 0, .int .i64 0, .string (⟨#[]⟩ : ByteArray)] 53 (0, 0))) := ⟨by rw [← hq_]; exact (kN BK163.out)⟩; have n1_ : Aside0 (w53.heap[gb189]? = some (.cells #[.bool ((Go.bits .and .i64 t169 4096) != 0), .int .i64 (Go.bits .and .i64 t169 2047), .int .i64 (wrap64 (t174 - 49152)), .string t184] 53 (0, 0))) := ⟨by rw [← hq_]; exact (kN BK189.out)⟩; have n2_ : Aside0 (IsS95 w w53 g168 t185 t186 t187 false) := ⟨by rw [← hq_]; exact (by repeat (first | (with_reducible first | exact HI168.out | apply IsS95.alloc | apply IsS95.drewN | apply IsS95.drew | apply IsS95.set_0 | apply IsS95.set_1 | apply IsS95.set_2 | apply IsS95.set_3 | refine IsS95.far ?_ NB168_163.out _ | refine IsS95.far ?_ NB168_189.out _) | exact HI168.out))⟩; have n3_ : Aside0 (Below w.heap.size w w53) := ⟨by rw [← hq_]; exact (by repeat (first | (with_reducible first | exact HB.out | apply below_alloc | apply pw_below_drewN | apply below_drew1 | refine below_set ?_ (IsS95.ge HI168.out) | refine below_set ?_ GE163.out | refine below_set ?_ GE189.out) | exact HB.out))⟩; clear BK163 BK189 HI168 HB hq_; have BK163 := n0_; have BK189 := n1_; have HI168 := n2_; have HB := n3_; clear n0_ n1_ n2_ n3_)); have hcz54_0 : w53.cell? ⟨gb189, 0, none⟩ = some (.bool ((Go.bits .and .i64 t169 4096) != 0)) := bc BK189 0; have hcz54_1 : w53.cell? ⟨gb189, 1, none⟩ = some (.int .i64 (Go.bits .and .i64 t169 2047)) := bc BK189 1; have hcz54_2 : w53.cell? ⟨gb189, 2, none⟩ = some (.int .i64 (wrap64 (t174 - 49152))) := bc BK189 2; have hcz54_3 : w53.cell? ⟨gb189, 3, none⟩ = some (.string t184) := bc BK189 3; have hfz54_0 := blk_frozen BK189.out 0; have hfz54_1 := blk_frozen BK189.out 1; have hfz54_2 := blk_frozen BK189.out 2; have hfz54_3 := blk_frozen BK189.out 3; have hnb55 := NB163_168.out; have hnc55 := NB168_163.out; have hcz56_0 : w53.cell? ⟨gb163, 0, none⟩ = some (.bool false) := bc BK163 0; have hcz56_1 : w53.cell? ⟨gb163, 1, none⟩ = some (.int .i64 0) := bc BK163 1; have hcz56_2 : w53.cell? ⟨gb163, 2, none⟩ = some (.int .i64 0) := bc BK163 2; have hcz56_3 : w53.cell? ⟨gb163, 3, none⟩ = some (.string (⟨#[]⟩ : ByteArray)) := bc BK163 3; have hfz56_0 := blk_frozen BK163.out 0; have hfz56_1 := blk_frozen BK163.out 1; have hfz56_2 := blk_frozen BK163.out 2; have hfz56_3 := blk_frozen BK163.out 3))
         refine bodyPost_ret (results_ct rfl _ _ gb163 53 #[.bool ((Go.bits .and .i64 t169 4096) != 0), .int .i64 (Go.bits .and .i64 t169 2047), .int .i64 (wrap64 (t174 - 49152)), .string t184] (0, 0) _ rfl (kP BK163.out) Tryd.underlying53 rfl (by kernel_rfl)) rfl ?_
         exact ⟨by first | rfl | (simp [errW_none, errW_some] <;> rfl) | (simp [*, errW_none, errW_some] <;> rfl), by repeat (first | (with_reducible first | exact HB.out | apply below_alloc | apply pw_below_drewN | apply below_drew1 | refine below_set ?_ (IsS95.ge HI168.out) | refine below_set ?_ GE163.out | refine below_set ?_ GE189.out) | exact HB.out)⟩
        ·replace c42 := Bool.eq_false_iff.mpr c42
         subst c42
         have H1 : (some (false, 0, 0, (⟨#[]⟩ : ByteArray), 0)) = some (r1, r2, r3, r4, r5) := by rw [if_neg (show ¬ (false = true) by decide)] at H; exact H
         clear H
         have H := H1
         clear H1
         simp only [Option.some.injEq, Prod.mk.injEq] at H
         obtain ⟨rfl, rfl, rfl, rfl, rfl⟩ := H
         go_wp2_with (first | ((with_reducible refine gate_callee (f := 60) rfl ?_); refine goesL_ (some 25) rfl rfl Tryd.func60 (by kernel_rfl) rfl #[.string (a0.extract (a1 : Int).toNat a0.size)] rfl gl_ ?_; (with_reducible refine (impl_readerOf.calls (a0.extract (a1 : Int).toNat a0.size) t164 t165 t166 t167 w _ ?side1 A10.out).mono ?_); (case side1 => repeat (first | (with_reducible first | exact HB.out | apply below_alloc | apply pw_below_drewN | apply below_drew1 | refine below_set ?_ GE163.out) | exact HB.out)); rintro e w57 ⟨g168, rfl, hi, hb, hb2⟩; refine ⟨_, rfl, ?_⟩; have n0_ := m_ (blk_below (g := gb163) (o := .cells #[.bool false, .int .i64 0, .int .i64 0, .string (⟨#[]⟩ : ByteArray)] 53 (0, 0)) (kN BK163.out) hb2); have n1_ := m_ (hb); have n2_ := m_ (hi); have n3_ := m_ (IsS95.ne_blk hi (blk_below (g := gb163) (o := .cells #[.bool false, .int .i64 0, .int .i64 0, .string (⟨#[]⟩ : ByteArray)] 53 (0, 0)) (kN BK163.out) hb2) (by decide)); have n4_ := m_ (Ne.symm (IsS95.ne_blk hi (blk_below (g := gb163) (o := .cells #[.bool false, .int .i64 0, .int .i64 0, .string (⟨#[]⟩ : ByteArray)] 53 (0, 0)) (kN BK163.out) hb2) (by decide))); clear BK163; clear HB; have BK163 := n0_; have HB := n1_; have HI168 := n2_; have NB168_163 := n3_; have NB163_168 := n4_; clear n0_ n1_ n2_ n3_ n4_; (try clear hb); (try clear hb2); (try clear hk); (try clear hi)) | ((with_reducible refine gate_callee (f := 61) rfl ?_); refine goesL_ (some 27) rfl rfl Tryd.func61 (by kernel_rfl) rfl #[.pointer (some ⟨g168, 0, none⟩), .int .i64 2] rfl gl_ ?_; (with_reducible refine (impl_reader_number.calls kj2 g168 t164 t165 t166 t167 2 t169 t170 t171 t172 t173 w _ ?side1 ?side2 A11.out).mono ?_); (case side1 => repeat (first | (with_reducible first | exact HI168.out | apply IsS95.alloc | apply IsS95.drewN | apply IsS95.drew | apply IsS95.set_0 | apply IsS95.set_1 | apply IsS95.set_2 | apply IsS95.set_3 | refine IsS95.far ?_ NB168_163.out _) | exact HI168.out)); (case side2 => repeat (first | (with_reducible first | exact HB.out | apply below_alloc | apply pw_below_drewN | apply below_drew1 | refine below_set ?_ (IsS95.ge HI168.out) | refine below_set ?_ GE163.out) | exact HB.out)); rintro e w58 ⟨rfl, hi, hb, hk⟩; refine ⟨_, rfl, ?_⟩; have n0_ := m_ (KeepBut.blk hk (g' := gb163) (o := .cells #[.bool false, .int .i64 0, .int .i64 0, .string (⟨#[]⟩ : ByteArray)] 53 (0, 0)) (kN BK163.out) NB163_168.out (by simp)); have n1_ := m_ (hb); have n2_ := m_ (hi); clear BK163; clear HB; clear HI168; have BK163 := n0_; have HB := n1_; have HI168 := n2_; clear n0_ n1_ n2_; (try clear hb); (try clear hb2); (try clear hk); (try clear hi)) | ((with_reducible refine gate_callee (f := 61) rfl ?_); refine goesL_ (some 29) rfl rfl Tryd.func61 (by kernel_rfl) rfl #[.pointer (some ⟨g168, 0, none⟩), .int .i64 2] rfl gl_ ?_; (with_reducible refine (impl_reader_number.calls kj2 g168 t170 t171 t172 t173 2 t174 t175 t176 t177 t178 w _ ?side1 ?side2 A12.out).mono ?_); (case side1 => repeat (first | (with_reducible first | exact HI168.out | apply IsS95.alloc | apply IsS95.drewN | apply IsS95.drew | apply IsS95.set_0 | apply IsS95.set_1 | apply IsS95.set_2 | apply IsS95.set_3 | refine IsS95.far ?_ NB168_163.out _) | exact HI168.out)); (case side2 => repeat (first | (with_reducible first | exact HB.out | apply below_alloc | apply pw_below_drewN | apply below_drew1 | refine below_set ?_ (IsS95.ge HI168.out) | refine below_set ?_ GE163.out) | exact HB.out)); rintro e w59 ⟨rfl, hi, hb, hk⟩; refine ⟨_, rfl, ?_⟩; have n0_ := m_ (KeepBut.blk hk (g' := gb163) (o := .cells #[.bool false, .int .i64 0, .int .i64 0, .string (⟨#[]⟩ : ByteArray)] 53 (0, 0)) (kN BK163.out) NB163_168.out (by simp)); have n1_ := m_ (hb); have n2_ := m_ (hi); clear BK163; clear HB; clear HI168; have BK163 := n0_; have HB := n1_; have HI168 := n2_; clear n0_ n1_ n2_; (try clear hb); (try clear hb2); (try clear hk); (try clear hi)) | ((with_reducible refine gate_callee (f := 61) rfl ?_); refine goesL_ (some 31) rfl rfl Tryd.func61 (by kernel_rfl) rfl #[.pointer (some ⟨g168, 0, none⟩), .int .i64 2] rfl gl_ ?_; (with_reducible refine (impl_reader_number.calls kj2 g168 t175 t176 t177 t178 2 t179 t180 t181 t182 t183 w _ ?side1 ?side2 A13.out).mono ?_); (case side1 => repeat (first | (with_reducible first | exact HI168.out | apply IsS95.alloc | apply IsS95.drewN | apply IsS95.drew | apply IsS95.set_0 | apply IsS95.set_1 | apply IsS95.set_2 | apply IsS95.set_3 | refine IsS95.far ?_ NB168_163.out _) | exact HI168.out)); (case side2 => repeat (first | (with_reducible first | exact HB.out | apply below_alloc | apply pw_below_drewN | apply below_drew1 | refine below_set ?_ (IsS95.ge HI168.out) | refine below_set ?_ GE163.out) | exact HB.out)); rintro e w60 ⟨rfl, hi, hb, hk⟩; refine ⟨_, rfl, ?_⟩; have n0_ := m_ (KeepBut.blk hk (g' := gb163) (o := .cells #[.bool false, .int .i64 0, .int .i64 0, .string (⟨#[]⟩ : ByteArray)] 53 (0, 0)) (kN BK163.out) NB163_168.out (by simp)); have n1_ := m_ (hb); have n2_ := m_ (hi); clear BK163; clear HB; clear HI168; have BK163 := n0_; have HB := n1_; have HI168 := n2_; clear n0_ n1_ n2_; (try clear hb); (try clear hb2); (try clear hk); (try clear hi)) | ((with_reducible refine gate_callee (f := 62) rfl ?_); refine goesL_ (some 35) rfl rfl Tryd.func62 (by kernel_rfl) rfl #[.pointer (some ⟨g168, 0, none⟩), .int .i64 (wrap64 (t179 + 1))] rfl gl_ ?_; (with_reducible refine (impl_reader_take.calls g168 t180 t181 t182 t183 (wrap64 (t179 + 1)) t184 t185 t186 t187 false w _ ?side1 ?side2 A14.out).mono ?_); (case side1 => repeat (first | (with_reducible first | exact HI168.out | apply IsS95.alloc | apply IsS95.drewN | apply IsS95.drew | apply IsS95.set_0 | apply IsS95.set_1 | apply IsS95.set_2 | apply IsS95.set_3 | refine IsS95.far ?_ NB168_163.out _) | exact HI168.out)); (case side2 => repeat (first | (with_reducible first | exact HB.out | apply below_alloc | apply pw_below_drewN | apply below_drew1 | refine below_set ?_ (IsS95.ge HI168.out) | refine below_set ?_ GE163.out) | exact HB.out)); rintro e w61 ⟨rfl, hi, hb, hk⟩; refine ⟨_, rfl, ?_⟩; have n0_ := m_ (KeepBut.blk hk (g' := gb163) (o := .cells #[.bool false, .int .i64 0, .int .i64 0, .string (⟨#[]⟩ : ByteArray)] 53 (0, 0)) (kN BK163.out) NB163_168.out (by simp)); have n1_ := m_ (hb); have n2_ := m_ (hi); clear BK163; clear HB; clear HI168; have BK163 := n0_; have HB := n1_; have HI168 := n2_; clear n0_ n1_ n2_; (try clear hb); (try clear hb2); (try clear hk); (try clear hi); obtain ⟨HGz62, hgz62⟩ := HI168.out; have hcz62_0 := cellS95_0 HGz62; have hcz62_1 := cellS95_1 HGz62; have hcz62_2 := cellS95_2 HGz62; have hcz62_3 := cellS95_3 HGz62; have hfz62_0 := blk_frozen HGz62 0; have hfz62_1 := blk_frozen HGz62 1; have hfz62_2 := blk_frozen HGz62 2; have hfz62_3 := blk_frozen HGz62 3; clear HGz62 hgz62) | ((with_reducible refine gate_dst (N := 11) rfl ?_); (try (refine gate_guard (by rfl) ?_; dsimp only)); refine box_event ?hg (N := 11) ?hd (cs := #[.bool false, .int .i64 0, .int .i64 0, .string (⟨#[]⟩ : ByteArray)]) (t := 53) ?hr ?_; (case hd => rfl); (case hg => rfl); (case hr => first | (go_simp; done) | (go_simp; rfl)); intro gb189 hg w63 hbox hb; have n0_ := m_ (blk_below (g := gb163) (o := .cells #[.bool false, .int .i64 0, .int .i64 0, .string (⟨#[]⟩ : ByteArray)] 53 (0, 0)) (kN BK163.out) hb); have n1_ := m_ (IsS95.below (by repeat (first | (with_reducible first | exact HI168.out | apply IsS95.alloc | apply IsS95.drewN | apply IsS95.drew | apply IsS95.set_0 | apply IsS95.set_1 | apply IsS95.set_2 | apply IsS95.set_3 | refine IsS95.far ?_ NB168_163.out _) | exact HI168.out)) hb); have n2_ := m_ (below_step (by repeat (first | (with_reducible first | exact HB.out | apply below_alloc | apply pw_below_drewN | apply below_drew1 | refine below_set ?_ (IsS95.ge HI168.out) | refine below_set ?_ GE163.out) | exact HB.out)) hb); have n3_ := m_ (hbox); have n4_ := m_ ((by rw [hg]; exact (below_size (by repeat (first | (with_reducible first | exact HB.out | apply below_alloc | apply pw_below_drewN | apply below_drew1 | refine below_set ?_ (IsS95.ge HI168.out) | refine below_set ?_ GE163.out) | exact HB.out))) : w.heap.size ≤ gb189)); have n5_ := m_ ((by rw [hg]; exact (below_size (by repeat (first | (with_reducible first | exact HB.out | apply below_alloc | apply pw_below_drewN | apply below_drew1 | refine below_set ?_ (IsS95.ge HI168.out) | refine below_set ?_ GE163.out) | exact HB.out))) : w.heap.size ≤ gb189)); have n6_ := m_ ((by rw [hg]; exact Nat.ne_of_lt (blk_lt (g := gb163) (o := .cells #[.bool false, .int .i64 0, .int .i64 0, .string (⟨#[]⟩ : ByteArray)] 53 (0, 0)) (kN BK163.out)) : gb163 ≠ gb189)); have n7_ := m_ ((by rw [hg]; exact Nat.ne_of_gt (blk_lt (g := gb163) (o := .cells #[.bool false, .int .i64 0, .int .i64 0, .string (⟨#[]⟩ : ByteArray)] 53 (0, 0)) (kN BK163.out)) : gb189 ≠ gb163)); have n8_ := m_ ((by rw [hg]; exact Nat.ne_of_lt (IsS95.lt (show IsS95 w _ g168 t185 t186 t187 false from by repeat (first | (with_reducible first | exact HI168.out | apply IsS95.alloc | apply IsS95.drewN | apply IsS95.drew | apply IsS95.set_0 | apply IsS95.set_1 | apply IsS95.set_2 | apply IsS95.set_3 | refine IsS95.far ?_ NB168_163.out _) | exact HI168.out))) : g168 ≠ gb189)); have n9_ := m_ ((by rw [hg]; exact Nat.ne_of_gt (IsS95.lt (show IsS95 w _ g168 t185 t186 t187 false from by repeat (first | (with_reducible first | exact HI168.out | apply IsS95.alloc | apply IsS95.drewN | apply IsS95.drew | apply IsS95.set_0 | apply IsS95.set_1 | apply IsS95.set_2 | apply IsS95.set_3 | refine IsS95.far ?_ NB168_163.out _) | exact HI168.out))) : gb189 ≠ g168)); clear BK163; clear HI168; clear HB; have BK163 := n0_; have HI168 := n1_; have HB := n2_; have BK189 := n3_; have GW189 := n4_; have GE189 := n5_; have NB163_189 := n6_; have NB189_163 := n7_; have NB168_189 := n8_; have NB189_168 := n9_; clear n0_ n1_ n2_ n3_ n4_ n5_ n6_ n7_ n8_ n9_; clear hb hbox hg; have hnb64 := NB189_163.out; have hnc64 := NB163_189.out; have hnb65 := NB189_168.out; have hnc65 := NB168_189.out; have hcz66_0 : w63.cell? ⟨gb189, 0, none⟩ = some (.bool false) := bc BK189 0; have hcz66_1 : w63.cell? ⟨gb189, 1, none⟩ = some (.int .i64 0) := bc BK189 1; have hcz66_2 : w63.cell? ⟨gb189, 2, none⟩ = some (.int .i64 0) := bc BK189 2; have hcz66_3 : w63.cell? ⟨gb189, 3, none⟩ = some (.string (⟨#[]⟩ : ByteArray)) := bc BK189 3; have hfz66_0 := blk_frozen BK189.out 0; have hfz66_1 := blk_frozen BK189.out 1; have hfz66_2 := blk_frozen BK189.out 2; have hfz66_3 := blk_frozen BK189.out 3) | ((with_reducible refine gate_callee (f := 63) rfl ?_); refine goesL_ (some 51) rfl rfl Tryd.func63 (by kernel_rfl) rfl #[.agg #[.bool ((Go.bits .and .i64 t169 4096) != 0), .int .i64 (Go.bits .and .i64 t169 2047), .int .i64 (wrap64 (t174 - 49152)), .string t184]] rfl gl_ ?_; (with_reducible refine (impl_PacketPut.calls kj2 ((Go.bits .and .i64 t169 4096) != 0) (Go.bits .and .i64 t169 2047) (wrap64 (t174 - 49152)) t184 t190 _ A24.out).mono ?_); rintro e w67 ⟨rfl, hb⟩; refine ⟨_, rfl, ?_⟩; have n0_ := m_ (blk_below (g := gb163) (o := .cells #[.bool false, .int .i64 0, .int .i64 0, .string (⟨#[]⟩ : ByteArray)] 53 (0, 0)) (kF BK163.out NB163_189.out) hb); have n1_ := m_ (IsS95.below (show IsS95 w ((((w63.setCell ⟨gb189, 0, none⟩ (.bool ((Go.bits .and .i64 t169 4096) != 0))).setCell ⟨gb189, 1, none⟩ (.int .i64 (Go.bits .and .i64 t169 2047))).setCell ⟨gb189, 2, none⟩ (.int .i64 (wrap64 (t174 - 49152)))).setCell ⟨gb189, 3, none⟩ (.string t184)) g168 t185 t186 t187 false from by repeat (first | (with_reducible first | exact HI168.out | apply IsS95.alloc | apply IsS95.drewN | apply IsS95.drew | apply IsS95.set_0 | apply IsS95.set_1 | apply IsS95.set_2 | apply IsS95.set_3 | refine IsS95.far ?_ NB168_163.out _ | refine IsS95.far ?_ NB168_189.out _) | exact HI168.out)) hb); have n2_ := m_ (blk_below (g := gb189) (o := .cells #[.bool ((Go.bits .and .i64 t169 4096) != 0), .int .i64 (Go.bits .and .i64 t169 2047), .int .i64 (wrap64 (t174 - 49152)), .string t184] 53 (0, 0)) (kP BK189.out) hb); have n3_ := m_ (below_step (by repeat (first | (with_reducible first | exact HB.out | apply below_alloc | apply pw_below_drewN | apply below_drew1 | refine below_set ?_ (IsS95.ge HI168.out) | refine below_set ?_ GE163.out | refine below_set ?_ GE189.out) | exact HB.out)) hb); clear BK163; clear HI168; clear BK189; clear HB; have BK163 := n0_; have HI168 := n1_; have BK189 := n2_; have HB := n3_; clear n0_ n1_ n2_ n3_; (try clear hb); (try clear hb2); (try clear hk); (try clear hi)) | (go_at_call 64; (with_reducible refine (strings_HasPrefix.calls (a0.extract (a1 : Int).toNat a0.size) t190 false _ A41.out).mono ?_); rintro e w' ⟨rfl, ⟨nd, rfl⟩⟩; (try (rw [drewN_self w67]; generalize hq_ : World.drewN w67 _ = w67; have n0_ : Aside0 (w67.heap[gb163]? = some (.cells #[.bool false, .int .i64 0, .int .i64 0, .string (⟨#[]⟩ : ByteArray)] 53 (0, 0))) := ⟨by rw [← hq_]; exact (kN BK163.out)⟩; have n1_ : Aside0 (w67.heap[gb189]? = some (.cells #[.bool ((Go.bits .and .i64 t169 4096) != 0), .int .i64 (Go.bits .and .i64 t169 2047), .int .i64 (wrap64 (t174 - 49152)), .string t184] 53 (0, 0))) := ⟨by rw [← hq_]; exact (kN BK189.out)⟩; have n2_ : Aside0 (IsS95 w w67 g168 t185 t186 t187 false) := ⟨by rw [← hq_]; exact (by repeat (first | (with_reducible first | exact HI168.out | apply IsS95.alloc | apply IsS95.drewN | apply IsS95.drew | apply IsS95.set_0 | apply IsS95.set_1 | apply IsS95.set_2 | apply IsS95.set_3 | refine IsS95.far ?_ NB168_163.out _ | refine IsS95.far ?_ NB168_189.out _) | exact HI168.out))⟩; have n3_ : Aside0 (Below w.heap.size w w67) := ⟨by rw [← hq_]; exact (by repeat (first | (with_reducible first | exact HB.out | apply below_alloc | apply pw_below_drewN | apply below_drew1 | refine below_set ?_ (IsS95.ge HI168.out) | refine below_set ?_ GE163.out | refine below_set ?_ GE189.out) | exact HB.out))⟩; clear BK163 BK189 HI168 HB hq_; have BK163 := n0_; have BK189 := n1_; have HI168 := n2_; have HB := n3_; clear n0_ n1_ n2_ n3_)); have hnb68 := NB163_168.out; have hnc68 := NB168_163.out; have hcz69_0 : w67.cell? ⟨gb163, 0, none⟩ = some (.bool false) := bc BK163 0; have hcz69_1 : w67.cell? ⟨gb163, 1, none⟩ = some (.int .i64 0) := bc BK163 1; have hcz69_2 : w67.cell? ⟨gb163, 2, none⟩ = some (.int .i64 0) := bc BK163 2; have hcz69_3 : w67.cell? ⟨gb163, 3, none⟩ = some (.string (⟨#[]⟩ : ByteArray)) := bc BK163 3; have hfz69_0 := blk_frozen BK163.out 0; have hfz69_1 := blk_frozen BK163.out 1; have hfz69_2 := blk_frozen BK163.out 2; have hfz69_3 := blk_frozen BK163.out 3))
         refine bodyPost_ret (results_ct rfl _ _ gb163 53 #[.bool false, .int .i64 0, .int .i64 0, .string (⟨#[]⟩ : ByteArray)] (0, 0) _ rfl (kP BK163.out) Tryd.underlying53 rfl (by kernel_rfl)) rfl ?_
         exact ⟨by first | rfl | (simp [errW_none, errW_some] <;> rfl) | (simp [*, errW_none, errW_some] <;> rfl), by repeat (first | (with_reducible first | exact HB.out | apply below_alloc | apply pw_below_drewN | apply below_drew1 | refine below_set ?_ (IsS95.ge HI168.out) | refine below_set ?_ GE163.out | refine below_set ?_ GE189.out) | exact HB.out)⟩
     ·rw [if_neg c9] at H
      exact absurd H (by simp)
    ·rw [if_neg c8] at H
     exact absurd H (by simp)

/-! ### impl_packetOnly: function 32 -/
def impl_packetOnly.f (k : Nat) (a0 : ByteArray) : Option (Bool × Int × Int × ByteArray × Bool) := (impl_PacketGet.f k a0 0).bind fun bt193 => (if bt193.2.2.2.2 = 0 then (some (false, 0, 0, (⟨#[]⟩ : ByteArray), false)) else (if bt193.2.2.2.2 = (a0.size : Int) then (some (bt193.1, bt193.2.1, bt193.2.2.1, bt193.2.2.2.1, true)) else (some (false, 0, 0, (⟨#[]⟩ : ByteArray), false))))
theorem impl_packetOnly.mono : ∀ a0 k, LeO (impl_packetOnly.f k a0) (impl_packetOnly.f (k + 1) a0) := by
 intro a0 k
 unfold impl_packetOnly.f
 repeat' first
   | (with_reducible exact impl_PacketGet.mono _ _ _)
   | (with_reducible exact LeO.refl _)
   | (with_reducible exact LeO.none _)
   | (with_reducible refine LeO.ite ?_ ?_)
   | (with_reducible refine LeO.bind ?_ (fun _ => ?_))
   | exact impl_PacketGet.mono _ _ _
   | exact LeO.none _
   | refine LeO.ite ?_ ?_
   | refine LeO.bind ?_ (fun _ => ?_)
set_option maxHeartbeats 8000000 in
set_option maxRecDepth 100000 in
theorem impl_packetOnly.calls (k : Nat) (a0 : ByteArray) (r1 : Bool) (r2 : Int) (r3 : Int) (r4 : ByteArray) (r5 : Bool) (w : World) (h : impl_packetOnly.f k a0 = some (r1, r2, r3, r4, r5)) :
  Calls Tryd.prog 32 #[.string a0] w fun e w' => e = .returned (.tuple #[.agg #[.bool r1, .int .i64 r2, .int .i64 r3, .string r4], .bool r5]) ∧ Below w.heap.size w w' := by
 have hu53 := Tryd.underlying53
 have HB := m_ (Below.refl w.heap.size w)
 have H : ((impl_PacketGet.f k a0 0).bind fun bt193 => (if bt193.2.2.2.2 = 0 then (some (false, 0, 0, (⟨#[]⟩ : ByteArray), false)) else (if bt193.2.2.2.2 = (a0.size : Int) then (some (bt193.1, bt193.2.1, bt193.2.2.1, bt193.2.2.2.1, true)) else (some (false, 0, 0, (⟨#[]⟩ : ByteArray), false))))) = some (r1, r2, r3, r4, r5) := h
 clear h
 replace H := Option.bind_eq_some_iff.mp H
 obtain ⟨⟨t193, t194, t195, t196, t197⟩, A20, H⟩ := H
 replace H : (if t197 = 0 then (some (false, 0, 0, (⟨#[]⟩ : ByteArray), false)) else (if t197 = (a0.size : Int) then (some (t193, t194, t195, t196, true)) else (some (false, 0, 0, (⟨#[]⟩ : ByteArray), false)))) = some (r1, r2, r3, r4, r5) := H
 have A2 := Aside0.mk A20
 clear A20
 by_cases c3 : t197 = 0
 ·rw [if_pos c3] at H
  have c3b0 : (t197 == 0) = true := beq_iff_eq.mpr c3
  have c3b1 : (t197 != 0) = false := bne_eq_false_iff_eq.mpr c3
  clear c3
  simp only [Option.some.injEq, Prod.mk.injEq] at H
  obtain ⟨rfl, rfl, rfl, rfl, rfl⟩ := H
  go_enter Tryd.func32, Tryd.ntmps32
  go_wp2_with (first | ((with_reducible refine gate_dst (N := 2) rfl ?_); (try (refine gate_guard (by rfl) ?_; dsimp only)); refine box_event ?hg (N := 2) ?hd (cs := #[.bool false, .int .i64 0, .int .i64 0, .string (⟨#[]⟩ : ByteArray)]) (t := 53) ?hr ?_; (case hd => rfl); (case hg => rfl); (case hr => first | (go_simp; done) | (go_simp; rfl)); intro gb192 hg w4 hbox hb; have n0_ := m_ (below_step (bN HB.out) hb); have n1_ := m_ (hbox); have n2_ := m_ ((by rw [hg]; exact (below_size (bN HB.out)) : w.heap.size ≤ gb192)); have n3_ := m_ ((by rw [hg]; exact (below_size (bN HB.out)) : w.heap.size ≤ gb192)); clear HB; have HB := n0_; have BK192 := n1_; have GW192 := n2_; have GE192 := n3_; clear n0_ n1_ n2_ n3_; clear hb hbox hg) | ((with_reducible refine gate_callee (f := 27) rfl ?_); refine goesL_ (some 8) rfl rfl Tryd.func27 (by kernel_rfl) rfl #[.string a0, .int .i64 0] rfl gl_ ?_; (with_reducible refine (impl_PacketGet.calls k a0 0 t193 t194 t195 t196 t197 _ A2.out).mono ?_); rintro e w5 ⟨rfl, hb⟩; refine ⟨_, rfl, ?_⟩; have n0_ := m_ (blk_below (g := gb192) (o := .cells #[.bool false, .int .i64 0, .int .i64 0, .string (⟨#[]⟩ : ByteArray)] 53 (0, 0)) (kN BK192.out) hb); have n1_ := m_ (below_step (bN HB.out) hb); clear BK192; clear HB; have BK192 := n0_; have HB := n1_; clear n0_ n1_; (try clear hb); (try clear hb2); (try clear hk); (try clear hi)) | ((with_reducible refine gate_dst (N := 4) rfl ?_); (try (refine gate_guard (by rfl) ?_; dsimp only)); refine box_event ?hg (N := 4) ?hd (cs := #[.bool false, .int .i64 0, .int .i64 0, .string (⟨#[]⟩ : ByteArray)]) (t := 53) ?hr ?_; (case hd => rfl); (case hg => rfl); (case hr => first | (go_simp; done) | (go_simp; rfl)); intro gb198 hg w6 hbox hb; have n0_ := m_ (blk_below (g := gb192) (o := .cells #[.bool false, .int .i64 0, .int .i64 0, .string (⟨#[]⟩ : ByteArray)] 53 (0, 0)) (kN BK192.out) hb); have n1_ := m_ (below_step (bN HB.out) hb); have n2_ := m_ (hbox); have n3_ := m_ ((by rw [hg]; exact (below_size (bN HB.out)) : w.heap.size ≤ gb198)); have n4_ := m_ ((by rw [hg]; exact (below_size (bN HB.out)) : w.heap.size ≤ gb198)); have n5_ := m_ ((by rw [hg]; exact Nat.ne_of_lt (blk_lt (g := gb192) (o := .cells #[.bool false, .int .i64 0, .int .i64 0, .string (⟨#[]⟩ : ByteArray)] 53 (0, 0)) (kN BK192.out)) : gb192 ≠ gb198)); have n6_ := m_ ((by rw [hg]; exact Nat.ne_of_gt (blk_lt (g := gb192) (o := .cells #[.bool false, .int .i64 0, .int .i64 0, .string (⟨#[]⟩ : ByteArray)] 53 (0, 0)) (kN BK192.out)) : gb198 ≠ gb192)); clear BK192; clear HB; have BK192 := n0_; have HB := n1_; have BK198 := n2_; have GW198 := n3_; have GE198 := n4_; have NB192_198 := n5_; have NB198_192 := n6_; clear n0_ n1_ n2_ n3_ n4_ n5_ n6_; clear hb hbox hg; have hnb7 := NB198_192.out; have hnc7 := NB192_198.out; have hcz8_0 : w6.cell? ⟨gb198, 0, none⟩ = some (.bool false) := bc BK198 0; have hcz8_1 : w6.cell? ⟨gb198, 1, none⟩ = some (.int .i64 0) := bc BK198 1; have hcz8_2 : w6.cell? ⟨gb198, 2, none⟩ = some (.int .i64 0) := bc BK198 2; have hcz8_3 : w6.cell? ⟨gb198, 3, none⟩ = some (.string (⟨#[]⟩ : ByteArray)) := bc BK198 3; have hfz8_0 := blk_frozen BK198.out 0; have hfz8_1 := blk_frozen BK198.out 1; have hfz8_2 := blk_frozen BK198.out 2; have hfz8_3 := blk_frozen BK198.out 3; have hcz9_0 : w6.cell? ⟨gb192, 0, none⟩ = some (.bool false) := bc BK192 0; have hcz9_1 : w6.cell? ⟨gb192, 1, none⟩ = some (.int .i64 0) := bc BK192 1; have hcz9_2 : w6.cell? ⟨gb192, 2, none⟩ = some (.int .i64 0) := bc BK192 2; have hcz9_3 : w6.cell? ⟨gb192, 3, none⟩ = some (.string (⟨#[]⟩ : ByteArray)) := bc BK192 3; have hfz9_0 := blk_frozen BK192.out 0; have hfz9_1 := blk_frozen BK192.out 1; have hfz9_2 := blk_frozen BK192.out 2; have hfz9_3 := blk_frozen BK192.out 3))
  refine bodyPost_ret (results_ct rfl _ _ gb192 53 #[.bool false, .int .i64 0, .int .i64 0, .string (⟨#[]⟩ : ByteArray)] (0, 0) _ rfl (kR BK192.out NB192_198.out) Tryd.underlying53 rfl (by kernel_rfl)) rfl ?_
  exact ⟨by first | rfl | (simp [errW_none, errW_some] <;> rfl) | (simp [*, errW_none, errW_some] <;> rfl), by repeat (first | (with_reducible first | exact HB.out | apply below_alloc | apply pw_below_drewN | apply below_drew1 | refine below_set ?_ GE192.out | refine below_set ?_ GE198.out) | exact HB.out)⟩
 ·rw [if_neg c3] at H
  have c3b0 : (t197 == 0) = false := beq_eq_false_iff_ne.mpr c3
  have c3b1 : (t197 != 0) = true := bne_iff_ne.mpr c3
  by_cases c10 : t197 = (a0.size : Int)
  ·rw [if_pos c10] at H
   have c10b0 : (t197 == (a0.size : Int)) = true := beq_iff_eq.mpr c10
   have c10b1 : (t197 != (a0.size : Int)) = false := bne_eq_false_iff_eq.mpr c10
   clear c10
   simp only [Option.some.injEq, Prod.mk.injEq] at H
   obtain ⟨rfl, rfl, rfl, rfl, rfl⟩ := H
   go_enter Tryd.func32, Tryd.ntmps32
   go_wp2_with (first | ((with_reducible refine gate_dst (N := 2) rfl ?_); (try (refine gate_guard (by rfl) ?_; dsimp only)); refine box_event ?hg (N := 2) ?hd (cs := #[.bool false, .int .i64 0, .int .i64 0, .string (⟨#[]⟩ : ByteArray)]) (t := 53) ?hr ?_; (case hd => rfl); (case hg => rfl); (case hr => first | (go_simp; done) | (go_simp; rfl)); intro gb192 hg w11 hbox hb; have n0_ := m_ (below_step (bN HB.out) hb); have n1_ := m_ (hbox); have n2_ := m_ ((by rw [hg]; exact (below_size (bN HB.out)) : w.heap.size ≤ gb192)); have n3_ := m_ ((by rw [hg]; exact (below_size (bN HB.out)) : w.heap.size ≤ gb192)); clear HB; have HB := n0_; have BK192 := n1_; have GW192 := n2_; have GE192 := n3_; clear n0_ n1_ n2_ n3_; clear hb hbox hg) | ((with_reducible refine gate_callee (f := 27) rfl ?_); refine goesL_ (some 8) rfl rfl Tryd.func27 (by kernel_rfl) rfl #[.string a0, .int .i64 0] rfl gl_ ?_; (with_reducible refine (impl_PacketGet.calls k a0 0 t193 t194 t195 t196 t197 _ A2.out).mono ?_); rintro e w12 ⟨rfl, hb⟩; refine ⟨_, rfl, ?_⟩; have n0_ := m_ (blk_below (g := gb192) (o := .cells #[.bool false, .int .i64 0, .int .i64 0, .string (⟨#[]⟩ : ByteArray)] 53 (0, 0)) (kN BK192.out) hb); have n1_ := m_ (below_step (bN HB.out) hb); clear BK192; clear HB; have BK192 := n0_; have HB := n1_; clear n0_ n1_; (try clear hb); (try clear hb2); (try clear hk); (try clear hi)) | ((with_reducible refine gate_dst (N := 4) rfl ?_); (try (refine gate_guard (by rfl) ?_; dsimp only)); refine box_event ?hg (N := 4) ?hd (cs := #[.bool false, .int .i64 0, .int .i64 0, .string (⟨#[]⟩ : ByteArray)]) (t := 53) ?hr ?_; (case hd => rfl); (case hg => rfl); (case hr => first | (go_simp; done) | (go_simp; rfl)); intro gb198 hg w13 hbox hb; have n0_ := m_ (blk_below (g := gb192) (o := .cells #[.bool false, .int .i64 0, .int .i64 0, .string (⟨#[]⟩ : ByteArray)] 53 (0, 0)) (kN BK192.out) hb); have n1_ := m_ (below_step (bN HB.out) hb); have n2_ := m_ (hbox); have n3_ := m_ ((by rw [hg]; exact (below_size (bN HB.out)) : w.heap.size ≤ gb198)); have n4_ := m_ ((by rw [hg]; exact (below_size (bN HB.out)) : w.heap.size ≤ gb198)); have n5_ := m_ ((by rw [hg]; exact Nat.ne_of_lt (blk_lt (g := gb192) (o := .cells #[.bool false, .int .i64 0, .int .i64 0, .string (⟨#[]⟩ : ByteArray)] 53 (0, 0)) (kN BK192.out)) : gb192 ≠ gb198)); have n6_ := m_ ((by rw [hg]; exact Nat.ne_of_gt (blk_lt (g := gb192) (o := .cells #[.bool false, .int .i64 0, .int .i64 0, .string (⟨#[]⟩ : ByteArray)] 53 (0, 0)) (kN BK192.out)) : gb198 ≠ gb192)); clear BK192; clear HB; have BK192 := n0_; have HB := n1_; have BK198 := n2_; have GW198 := n3_; have GE198 := n4_; have NB192_198 := n5_; have NB198_192 := n6_; clear n0_ n1_ n2_ n3_ n4_ n5_ n6_; clear hb hbox hg; have hnb14 := NB198_192.out; have hnc14 := NB192_198.out; have hcz15_0 : w13.cell? ⟨gb198, 0, none⟩ = some (.bool false) := bc BK198 0; have hcz15_1 : w13.cell? ⟨gb198, 1, none⟩ = some (.int .i64 0) := bc BK198 1; have hcz15_2 : w13.cell? ⟨gb198, 2, none⟩ = some (.int .i64 0) := bc BK198 2; have hcz15_3 : w13.cell? ⟨gb198, 3, none⟩ = some (.string (⟨#[]⟩ : ByteArray)) := bc BK198 3; have hfz15_0 := blk_frozen BK198.out 0; have hfz15_1 := blk_frozen BK198.out 1; have hfz15_2 := blk_frozen BK198.out 2; have hfz15_3 := blk_frozen BK198.out 3; have hcz16_0 : w13.cell? ⟨gb192, 0, none⟩ = some (.bool false) := bc BK192 0; have hcz16_1 : w13.cell? ⟨gb192, 1, none⟩ = some (.int .i64 0) := bc BK192 1; have hcz16_2 : w13.cell? ⟨gb192, 2, none⟩ = some (.int .i64 0) := bc BK192 2; have hcz16_3 : w13.cell? ⟨gb192, 3, none⟩ = some (.string (⟨#[]⟩ : ByteArray)) := bc BK192 3; have hfz16_0 := blk_frozen BK192.out 0; have hfz16_1 := blk_frozen BK192.out 1; have hfz16_2 := blk_frozen BK192.out 2; have hfz16_3 := blk_frozen BK192.out 3))
   refine bodyPost_ret (results_ct rfl _ _ gb192 53 #[.bool t193, .int .i64 t194, .int .i64 t195, .string t196] (0, 0) _ rfl (kR BK192.out NB192_198.out) Tryd.underlying53 rfl (by kernel_rfl)) rfl ?_
   exact ⟨by first | rfl | (simp [errW_none, errW_some] <;> rfl) | (simp [*, errW_none, errW_some] <;> rfl), by repeat (first | (with_reducible first | exact HB.out | apply below_alloc | apply pw_below_drewN | apply below_drew1 | refine below_set ?_ GE192.out | refine below_set ?_ GE198.out) | exact HB.out)⟩
  ·rw [if_neg c10] at H
   have c10b0 : (t197 == (a0.size : Int)) = false := beq_eq_false_iff_ne.mpr c10
   have c10b1 : (t197 != (a0.size : Int)) = true := bne_iff_ne.mpr c10
   simp only [Option.some.injEq, Prod.mk.injEq] at H
   obtain ⟨rfl, rfl, rfl, rfl, rfl⟩ := H
   go_enter Tryd.func32, Tryd.ntmps32
   go_wp2_with (first | ((with_reducible refine gate_dst (N := 2) rfl ?_); (try (refine gate_guard (by rfl) ?_; dsimp only)); refine box_event ?hg (N := 2) ?hd (cs := #[.bool false, .int .i64 0, .int .i64 0, .string (⟨#[]⟩ : ByteArray)]) (t := 53) ?hr ?_; (case hd => rfl); (case hg => rfl); (case hr => first | (go_simp; done) | (go_simp; rfl)); intro gb192 hg w17 hbox hb; have n0_ := m_ (below_step (bN HB.out) hb); have n1_ := m_ (hbox); have n2_ := m_ ((by rw [hg]; exact (below_size (bN HB.out)) : w.heap.size ≤ gb192)); have n3_ := m_ ((by rw [hg]; exact (below_size (bN HB.out)) : w.heap.size ≤ gb192)); clear HB; have HB := n0_; have BK192 := n1_; have GW192 := n2_; have GE192 := n3_; clear n0_ n1_ n2_ n3_; clear hb hbox hg) | ((with_reducible refine gate_callee (f := 27) rfl ?_); refine goesL_ (some 8) rfl rfl Tryd.func27 (by kernel_rfl) rfl #[.string a0, .int .i64 0] rfl gl_ ?_; (with_reducible refine (impl_PacketGet.calls k a0 0 t193 t194 t195 t196 t197 _ A2.out).mono ?_); rintro e w18 ⟨rfl, hb⟩; refine ⟨_, rfl, ?_⟩; have n0_ := m_ (blk_below (g := gb192) (o := .cells #[.bool false, .int .i64 0, .int .i64 0, .string (⟨#[]⟩ : ByteArray)] 53 (0, 0)) (kN BK192.out) hb); have n1_ := m_ (below_step (bN HB.out) hb); clear BK192; clear HB; have BK192 := n0_; have HB := n1_; clear n0_ n1_; (try clear hb); (try clear hb2); (try clear hk); (try clear hi)) | ((with_reducible refine gate_dst (N := 4) rfl ?_); (try (refine gate_guard (by rfl) ?_; dsimp only)); refine box_event ?hg (N := 4) ?hd (cs := #[.bool false, .int .i64 0, .int .i64 0, .string (⟨#[]⟩ : ByteArray)]) (t := 53) ?hr ?_; (case hd => rfl); (case hg => rfl); (case hr => first | (go_simp; done) | (go_simp; rfl)); intro gb198 hg w19 hbox hb; have n0_ := m_ (blk_below (g := gb192) (o := .cells #[.bool false, .int .i64 0, .int .i64 0, .string (⟨#[]⟩ : ByteArray)] 53 (0, 0)) (kN BK192.out) hb); have n1_ := m_ (below_step (bN HB.out) hb); have n2_ := m_ (hbox); have n3_ := m_ ((by rw [hg]; exact (below_size (bN HB.out)) : w.heap.size ≤ gb198)); have n4_ := m_ ((by rw [hg]; exact (below_size (bN HB.out)) : w.heap.size ≤ gb198)); have n5_ := m_ ((by rw [hg]; exact Nat.ne_of_lt (blk_lt (g := gb192) (o := .cells #[.bool false, .int .i64 0, .int .i64 0, .string (⟨#[]⟩ : ByteArray)] 53 (0, 0)) (kN BK192.out)) : gb192 ≠ gb198)); have n6_ := m_ ((by rw [hg]; exact Nat.ne_of_gt (blk_lt (g := gb192) (o := .cells #[.bool false, .int .i64 0, .int .i64 0, .string (⟨#[]⟩ : ByteArray)] 53 (0, 0)) (kN BK192.out)) : gb198 ≠ gb192)); clear BK192; clear HB; have BK192 := n0_; have HB := n1_; have BK198 := n2_; have GW198 := n3_; have GE198 := n4_; have NB192_198 := n5_; have NB198_192 := n6_; clear n0_ n1_ n2_ n3_ n4_ n5_ n6_; clear hb hbox hg; have hnb20 := NB198_192.out; have hnc20 := NB192_198.out; have hcz21_0 : w19.cell? ⟨gb198, 0, none⟩ = some (.bool false) := bc BK198 0; have hcz21_1 : w19.cell? ⟨gb198, 1, none⟩ = some (.int .i64 0) := bc BK198 1; have hcz21_2 : w19.cell? ⟨gb198, 2, none⟩ = some (.int .i64 0) := bc BK198 2; have hcz21_3 : w19.cell? ⟨gb198, 3, none⟩ = some (.string (⟨#[]⟩ : ByteArray)) := bc BK198 3; have hfz21_0 := blk_frozen BK198.out 0; have hfz21_1 := blk_frozen BK198.out 1; have hfz21_2 := blk_frozen BK198.out 2; have hfz21_3 := blk_frozen BK198.out 3; have hcz22_0 : w19.cell? ⟨gb192, 0, none⟩ = some (.bool false) := bc BK192 0; have hcz22_1 : w19.cell? ⟨gb192, 1, none⟩ = some (.int .i64 0) := bc BK192 1; have hcz22_2 : w19.cell? ⟨gb192, 2, none⟩ = some (.int .i64 0) := bc BK192 2; have hcz22_3 : w19.cell? ⟨gb192, 3, none⟩ = some (.string (⟨#[]⟩ : ByteArray)) := bc BK192 3; have hfz22_0 := blk_frozen BK192.out 0; have hfz22_1 := blk_frozen BK192.out 1; have hfz22_2 := blk_frozen BK192.out 2; have hfz22_3 := blk_frozen BK192.out 3))
   refine bodyPost_ret (results_ct rfl _ _ gb192 53 #[.bool false, .int .i64 0, .int .i64 0, .string (⟨#[]⟩ : ByteArray)] (0, 0) _ rfl (kR BK192.out NB192_198.out) Tryd.underlying53 rfl (by kernel_rfl)) rfl ?_
   exact ⟨by first | rfl | (simp [errW_none, errW_some] <;> rfl) | (simp [*, errW_none, errW_some] <;> rfl), by repeat (first | (with_reducible first | exact HB.out | apply below_alloc | apply pw_below_drewN | apply below_drew1 | refine below_set ?_ GE192.out | refine below_set ?_ GE198.out) | exact HB.out)⟩

/-! ### impl_QueueOk: function 12 -/
def impl_QueueOk.l0 : Nat → List ByteArray → Int → Int → List ByteArray → Int → Option (Bool)
 | 0, _, _, _, _, _ => none
 | k + 1, x12, x13, x14, x200000, x200001 => if x14 < x13 then (if 0 ≤ x14 then (if x14 < (x12.length : Int) then ((impl_packetOnly.f k (rdOf ByteArray.empty x12 x14)).bind fun bt201 => (if bt201.2.2.2.2 = true then (impl_QueueOk.l0 k x12 x13 (wrap64 (x14 + 1)) x200000 x200001) else (some false))) else (none)) else (none)) else (if x200001 = 0 then (some true) else (if (x200000.length : Int) > 0 then (if 0 < (x200000.length : Int) then ((impl_within.f x200001 (wrap64 (((rdOf ByteArray.empty x200000 0).size : Int) - 1))).bind fun t208 => (some t208)) else (none)) else (some false)))
def impl_QueueOk.f (k : Nat) (l0_0 : List ByteArray) (a0_1 : Int) : Option (Bool) := if (l0_0.length : Int) > 9 then (some false) else (impl_QueueOk.l0 k l0_0 (l0_0.length : Int) 0 l0_0 a0_1)
theorem impl_QueueOk.mono_l : ∀ k, (∀ y0 y1 y2 y3 y4, LeO (impl_QueueOk.l0 k y0 y1 y2 y3 y4) (impl_QueueOk.l0 (k + 1) y0 y1 y2 y3 y4))
 | 0 => fun _ _ _ _ _ r h => by simp [impl_QueueOk.l0] at h
 | k + 1 => by
  have ih0 := impl_QueueOk.mono_l k
  ·intro y0 y1 y2 y3 y4
   unfold impl_QueueOk.l0
   repeat' first
   | (with_reducible exact ih0 _ _ _ _ _)
   | (with_reducible exact impl_packetOnly.mono _ _)
   | (with_reducible exact LeO.refl _)
   | (with_reducible exact LeO.none _)
   | (with_reducible refine LeO.ite ?_ ?_)
   | (with_reducible refine LeO.bind ?_ (fun _ => ?_))
   | exact ih0 _ _ _ _ _
   | exact impl_packetOnly.mono _ _
   | exact LeO.none _
   | refine LeO.ite ?_ ?_
   | refine LeO.bind ?_ (fun _ => ?_)
theorem impl_QueueOk.mono : ∀ a0 a1 k, LeO (impl_QueueOk.f k a0 a1) (impl_QueueOk.f (k + 1) a0 a1) := by
 intro a0 a1 k
 have ih0 := impl_QueueOk.mono_l k
 unfold impl_QueueOk.f
 repeat' first
   | (with_reducible exact ih0 _ _ _ _ _)
   | (with_reducible exact impl_packetOnly.mono _ _)
   | (with_reducible exact LeO.refl _)
   | (with_reducible exact LeO.none _)
   | (with_reducible refine LeO.ite ?_ ?_)
   | (with_reducible refine LeO.bind ?_ (fun _ => ?_))
   | exact ih0 _ _ _ _ _
   | exact impl_packetOnly.mono _ _
   | exact LeO.none _
   | refine LeO.ite ?_ ?_
   | refine LeO.bind ?_ (fun _ => ?_)
set_option maxHeartbeats 8000000 in
set_option maxRecDepth 100000 in
theorem impl_QueueOk.calls (k : Nat) (A0_0 : Option Addr) (c0_0 : Nat) (l0_0 : List ByteArray) (a0_1 : Int) (r : Bool) (w : World) (hr0_0 : Kd.C Kd.string w A0_0 l0_0.length l0_0) (hc0_0 : l0_0.length ≤ c0_0) (h : impl_QueueOk.f k l0_0 a0_1 = some r) :
  Calls Tryd.prog 12 #[.agg #[.slice A0_0 l0_0.length c0_0, .int .i64 a0_1]] w fun e w' => e = .returned (.bool r) ∧ Below w.heap.size w w' := by
 have hu27 := Tryd.underlying27
 have hu53 := Tryd.underlying53
 have HR0_0 := Aside0.mk hr0_0
 have HC0_0 := Aside0.mk hc0_0
 clear hr0_0 hc0_0
 have HB := m_ (Below.refl w.heap.size w)
 have H : (if (l0_0.length : Int) > 9 then (some false) else (impl_QueueOk.l0 k l0_0 (l0_0.length : Int) 0 l0_0 a0_1)) = some r := h
 clear h
 by_cases c2 : (l0_0.length : Int) > 9
 ·rw [if_pos c2] at H
  have c2b0 : decide (9 < (l0_0.length : Int)) = true := decide_eq_true c2
  have c2b1 : decide (9 < l0_0.length) = true := decide_eq_true (by omega)
  clear c2
  obtain rfl := Option.some.inj H
  go_enter Tryd.func12, Tryd.ntmps12
  go_wp2_with (first | ((with_reducible refine gate_dst (N := 1) rfl ?_); (try (refine gate_guard (by rfl) ?_; dsimp only)); refine box_event ?hg (N := 1) ?hd (cs := #[.slice A0_0 l0_0.length c0_0, .int .i64 a0_1]) (t := 27) ?hr ?_; (case hd => rfl); (case hg => rfl); (case hr => first | (go_simp; done) | (go_simp; rfl)); intro gb199 hg w3 hbox hb; have n0_ := m_ (below_step (bN HB.out) hb); have n1_ := m_ (hbox); have n2_ := m_ ((by rw [hg]; exact (below_size (bN HB.out)) : w.heap.size ≤ gb199)); have n3_ := m_ ((by rw [hg]; exact (below_size (bN HB.out)) : w.heap.size ≤ gb199)); clear HB; have HB := n0_; have BK199 := n1_; have GW199 := n2_; have GE199 := n3_; clear n0_ n1_ n2_ n3_; clear hb hbox hg; have hcz4_0 : w3.cell? ⟨gb199, 0, none⟩ = some (.slice A0_0 l0_0.length c0_0) := bc BK199 0; have hcz4_1 : w3.cell? ⟨gb199, 1, none⟩ = some (.int .i64 a0_1) := bc BK199 1; have hfz4_0 := blk_frozen BK199.out 0; have hfz4_1 := blk_frozen BK199.out 1))
  repeat (go_quiet (first | ((with_reducible refine gate_dst (N := 1) rfl ?_); (try (refine gate_guard (by rfl) ?_; dsimp only)); refine box_event ?hg (N := 1) ?hd (cs := #[.slice A0_0 l0_0.length c0_0, .int .i64 a0_1]) (t := 27) ?hr ?_; (case hd => rfl); (case hg => rfl); (case hr => first | (go_simp; done) | (go_simp; rfl)); intro gb199 hg w3 hbox hb; have n0_ := m_ (below_step (bN HB.out) hb); have n1_ := m_ (hbox); have n2_ := m_ ((by rw [hg]; exact (below_size (bN HB.out)) : w.heap.size ≤ gb199)); have n3_ := m_ ((by rw [hg]; exact (below_size (bN HB.out)) : w.heap.size ≤ gb199)); clear HB; have HB := n0_; have BK199 := n1_; have GW199 := n2_; have GE199 := n3_; clear n0_ n1_ n2_ n3_; clear hb hbox hg; have hcz4_0 : w3.cell? ⟨gb199, 0, none⟩ = some (.slice A0_0 l0_0.length c0_0) := bc BK199 0; have hcz4_1 : w3.cell? ⟨gb199, 1, none⟩ = some (.int .i64 a0_1) := bc BK199 1; have hfz4_0 := blk_frozen BK199.out 0; have hfz4_1 := blk_frozen BK199.out 1)); try go_wp2_with (first | ((with_reducible refine gate_dst (N := 1) rfl ?_); (try (refine gate_guard (by rfl) ?_; dsimp only)); refine box_event ?hg (N := 1) ?hd (cs := #[.slice A0_0 l0_0.length c0_0, .int .i64 a0_1]) (t := 27) ?hr ?_; (case hd => rfl); (case hg => rfl); (case hr => first | (go_simp; done) | (go_simp; rfl)); intro gb199 hg w3 hbox hb; have n0_ := m_ (below_step (bN HB.out) hb); have n1_ := m_ (hbox); have n2_ := m_ ((by rw [hg]; exact (below_size (bN HB.out)) : w.heap.size ≤ gb199)); have n3_ := m_ ((by rw [hg]; exact (below_size (bN HB.out)) : w.heap.size ≤ gb199)); clear HB; have HB := n0_; have BK199 := n1_; have GW199 := n2_; have GE199 := n3_; clear n0_ n1_ n2_ n3_; clear hb hbox hg; have hcz4_0 : w3.cell? ⟨gb199, 0, none⟩ = some (.slice A0_0 l0_0.length c0_0) := bc BK199 0; have hcz4_1 : w3.cell? ⟨gb199, 1, none⟩ = some (.int .i64 a0_1) := bc BK199 1; have hfz4_0 := blk_frozen BK199.out 0; have hfz4_1 := blk_frozen BK199.out 1)))
  go_ret
  exact ⟨by first | rfl | (simp [errW_none, errW_some] <;> rfl) | (simp [*, errW_none, errW_some] <;> rfl), by repeat (first | (with_reducible first | exact HB.out | apply below_alloc | apply pw_below_drewN | apply below_drew1 | refine below_set ?_ GE199.out) | exact HB.out)⟩
 ·rw [if_neg c2] at H
  have c2b0 : decide (9 < (l0_0.length : Int)) = false := decide_eq_false c2
  have c2b1 : decide (9 < l0_0.length) = false := decide_eq_false (by omega)
  clear c2
  have H' := Aside0.mk H
  clear H
  go_enter Tryd.func12, Tryd.ntmps12
  go_wp2_with (first | ((with_reducible refine gate_dst (N := 1) rfl ?_); (try (refine gate_guard (by rfl) ?_; dsimp only)); refine box_event ?hg (N := 1) ?hd (cs := #[.slice A0_0 l0_0.length c0_0, .int .i64 a0_1]) (t := 27) ?hr ?_; (case hd => rfl); (case hg => rfl); (case hr => first | (go_simp; done) | (go_simp; rfl)); intro gb199 hg w5 hbox hb; have n0_ := m_ (below_step (bN HB.out) hb); have n1_ := m_ (hbox); have n2_ := m_ ((by rw [hg]; exact (below_size (bN HB.out)) : w.heap.size ≤ gb199)); have n3_ := m_ ((by rw [hg]; exact (below_size (bN HB.out)) : w.heap.size ≤ gb199)); clear HB; have HB := n0_; have BK199 := n1_; have GW199 := n2_; have GE199 := n3_; clear n0_ n1_ n2_ n3_; clear hb hbox hg; have hcz6_0 : w5.cell? ⟨gb199, 0, none⟩ = some (.slice A0_0 l0_0.length c0_0) := bc BK199 0; have hcz6_1 : w5.cell? ⟨gb199, 1, none⟩ = some (.int .i64 a0_1) := bc BK199 1; have hfz6_0 := blk_frozen BK199.out 0; have hfz6_1 := blk_frozen BK199.out 1))
  repeat (go_quiet (first | ((with_reducible refine gate_dst (N := 1) rfl ?_); (try (refine gate_guard (by rfl) ?_; dsimp only)); refine box_event ?hg (N := 1) ?hd (cs := #[.slice A0_0 l0_0.length c0_0, .int .i64 a0_1]) (t := 27) ?hr ?_; (case hd => rfl); (case hg => rfl); (case hr => first | (go_simp; done) | (go_simp; rfl)); intro gb199 hg w5 hbox hb; have n0_ := m_ (below_step (bN HB.out) hb); have n1_ := m_ (hbox); have n2_ := m_ ((by rw [hg]; exact (below_size (bN HB.out)) : w.heap.size ≤ gb199)); have n3_ := m_ ((by rw [hg]; exact (below_size (bN HB.out)) : w.heap.size ≤ gb199)); clear HB; have HB := n0_; have BK199 := n1_; have GW199 := n2_; have GE199 := n3_; clear n0_ n1_ n2_ n3_; clear hb hbox hg; have hcz6_0 : w5.cell? ⟨gb199, 0, none⟩ = some (.slice A0_0 l0_0.length c0_0) := bc BK199 0; have hcz6_1 : w5.cell? ⟨gb199, 1, none⟩ = some (.int .i64 a0_1) := bc BK199 1; have hfz6_0 := blk_frozen BK199.out 0; have hfz6_1 := blk_frozen BK199.out 1)); try go_wp2_with (first | ((with_reducible refine gate_dst (N := 1) rfl ?_); (try (refine gate_guard (by rfl) ?_; dsimp only)); refine box_event ?hg (N := 1) ?hd (cs := #[.slice A0_0 l0_0.length c0_0, .int .i64 a0_1]) (t := 27) ?hr ?_; (case hd => rfl); (case hg => rfl); (case hr => first | (go_simp; done) | (go_simp; rfl)); intro gb199 hg w5 hbox hb; have n0_ := m_ (below_step (bN HB.out) hb); have n1_ := m_ (hbox); have n2_ := m_ ((by rw [hg]; exact (below_size (bN HB.out)) : w.heap.size ≤ gb199)); have n3_ := m_ ((by rw [hg]; exact (below_size (bN HB.out)) : w.heap.size ≤ gb199)); clear HB; have HB := n0_; have BK199 := n1_; have GW199 := n2_; have GE199 := n3_; clear n0_ n1_ n2_ n3_; clear hb hbox hg; have hcz6_0 : w5.cell? ⟨gb199, 0, none⟩ = some (.slice A0_0 l0_0.length c0_0) := bc BK199 0; have hcz6_1 : w5.cell? ⟨gb199, 1, none⟩ = some (.int .i64 a0_1) := bc BK199 1; have hfz6_0 := blk_frozen BK199.out 0; have hfz6_1 := blk_frozen BK199.out 1)))
  go_loopg [14] k (fun kq v14 w' => ∃ (x14_1 : Int), v14 = .int .i64 x14_1 ∧ Aside0 (impl_QueueOk.l0 kq l0_0 (l0_0.length : Int) x14_1 l0_0 a0_1 = some r) ∧ Aside0 (kq ≤ k) ∧ Aside0 (w'.heap[gb199]? = some (.cells #[(.slice A0_0 l0_0.length c0_0), .int .i64 a0_1] 27 (0, 0))) ∧ Aside0 (Below w.heap.size w w'))
  case atStart => exact ⟨(0), (by first | rfl | (simp; done) | (simp [*]; done)), H', ⟨Nat.le_refl _⟩, ⟨kN BK199.out⟩, ⟨by repeat (first | (with_reducible first | exact HB.out | apply below_alloc | apply pw_below_drewN | apply below_drew1 | refine below_set ?_ GE199.out) | exact HB.out)⟩⟩
  case round =>
   clear H'
   try clear c1
   try clear c2
   try clear c2b0
   try clear c2b1
   try clear p2
   try clear hcz4_0
   try clear hcz4_1
   try clear hcz6_0
   try clear hcz6_1
   try clear hfz4_0
   try clear hfz4_1
   try clear hfz6_0
   try clear hfz6_1
   obtain ⟨x14_1, rfl, HA, HK1, BK199, HB⟩ := hrel
   cases gk with
   | zero => exact absurd HA.out (by simp [impl_QueueOk.l0])
   | succ k1 =>
    have H := HA.out
    clear HA
    simp only [impl_QueueOk.l0] at H
    by_cases c7 : x14_1 < (l0_0.length : Int)
    ·rw [if_pos c7] at H
     have c7b0 : decide (x14_1 < (l0_0.length : Int)) = true := decide_eq_true c7
     clear c7
     by_cases c8 : 0 ≤ x14_1
     ·rw [if_pos c8] at H
      have c8b0 : decide (0 ≤ x14_1) = true := decide_eq_true c8
      clear c8
      by_cases c9 : x14_1 < (l0_0.length : Int)
      ·rw [if_pos c9] at H
       have c9b0 : decide (x14_1 < (l0_0.length : Int)) = true := decide_eq_true c9
       clear c9
       replace H := Option.bind_eq_some_iff.mp H
       obtain ⟨⟨t201, t202, t203, t204, t205⟩, A100, H⟩ := H
       replace H : (if t205 = true then (impl_QueueOk.l0 k1 l0_0 (l0_0.length : Int) (wrap64 (x14_1 + 1)) l0_0 a0_1) else (some false)) = some r := H
       have A10 := Aside0.mk A100
       clear A100
       by_cases c11 : t205 = true
       ·subst c11
        have H1 : (impl_QueueOk.l0 k1 l0_0 (l0_0.length : Int) (wrap64 (x14_1 + 1)) l0_0 a0_1) = some r := by rw [if_pos rfl] at H; exact H
        clear H
        have H := H1
        clear H1
        have H' := Aside0.mk H
        clear H
        have p200 : 0 ≤ (x14_1 : Int) := of_decide_eq_true (by first | (with_reducible assumption) | assumption)
        have q200 : x14_1 < (l0_0.length : Int) := of_decide_eq_true (by first | (with_reducible assumption) | assumption)
        obtain ⟨ad200, e200, hx200_0⟩ := Kd.at_string HR0_0.out x14_1 p200 q200
        cases e200
        replace hx200_0 := (HB.out.cell (World.block_lt_of_cell? w _ hx200_0)).trans hx200_0
        replace p200 := eq_true p200
        replace q200 := eq_true q200
        go_wp2_with (first | (go_at_call 32; (with_reducible refine (impl_packetOnly.calls k1 (rdOf ByteArray.empty l0_0 x14_1) t201 t202 t203 t204 true _ A10.out).mono ?_); rintro e w12 ⟨rfl, hb⟩; have n0_ := m_ (blk_below (kN BK199.out) hb); have n1_ := m_ (below_step (bN HB.out) hb); clear BK199; clear HB; have BK199 := n0_; have HB := n1_; clear n0_ n1_; (try clear hb); (try clear hb2); (try clear hk); (try clear hi)) | ((with_reducible refine gate_dst (N := 5) rfl ?_); (try (refine gate_guard (by rfl) ?_; dsimp only)); refine box_event ?hg (N := 5) ?hd (cs := #[.bool false, .int .i64 0, .int .i64 0, .string (⟨#[]⟩ : ByteArray)]) (t := 53) ?hr ?_; (case hd => rfl); (case hg => rfl); (case hr => first | (go_simp; done) | (go_simp; rfl)); intro gb206 hg w13 hbox hb; have n0_ := m_ (blk_below (kN BK199.out) hb); have n1_ := m_ (below_step (bN HB.out) hb); have n2_ := m_ (hbox); have n3_ := m_ ((by rw [hg]; exact (below_size (bN HB.out)) : w.heap.size ≤ gb206)); have n4_ := m_ ((by rw [hg]; exact (below_size (bN HB.out)) : w.heap.size ≤ gb206)); have n5_ := m_ (nL hg BK199.out); have n6_ := m_ (nG hg BK199.out); clear BK199; clear HB; have BK199 := n0_; have HB := n1_; have BK206 := n2_; have GW206 := n3_; have GE206 := n4_; have NB199_206 := n5_; have NB206_199 := n6_; clear n0_ n1_ n2_ n3_ n4_ n5_ n6_; clear hb hbox hg; have hnb14 := NB206_199.out; have hnc14 := NB199_206.out; have hcz15_0 : w13.cell? ⟨gb206, 0, none⟩ = some (.bool false) := bc BK206 0; have hcz15_1 : w13.cell? ⟨gb206, 1, none⟩ = some (.int .i64 0) := bc BK206 1; have hcz15_2 : w13.cell? ⟨gb206, 2, none⟩ = some (.int .i64 0) := bc BK206 2; have hcz15_3 : w13.cell? ⟨gb206, 3, none⟩ = some (.string (⟨#[]⟩ : ByteArray)) := bc BK206 3; have hfz15_0 := blk_frozen BK206.out 0; have hfz15_1 := blk_frozen BK206.out 1; have hfz15_2 := blk_frozen BK206.out 2; have hfz15_3 := blk_frozen BK206.out 3))
        repeat (go_quiet (first | (go_at_call 32; (with_reducible refine (impl_packetOnly.calls k1 (rdOf ByteArray.empty l0_0 x14_1) t201 t202 t203 t204 true _ A10.out).mono ?_); rintro e w12 ⟨rfl, hb⟩; have n0_ := m_ (blk_below (kN BK199.out) hb); have n1_ := m_ (below_step (bN HB.out) hb); clear BK199; clear HB; have BK199 := n0_; have HB := n1_; clear n0_ n1_; (try clear hb); (try clear hb2); (try clear hk); (try clear hi)) | ((with_reducible refine gate_dst (N := 5) rfl ?_); (try (refine gate_guard (by rfl) ?_; dsimp only)); refine box_event ?hg (N := 5) ?hd (cs := #[.bool false, .int .i64 0, .int .i64 0, .string (⟨#[]⟩ : ByteArray)]) (t := 53) ?hr ?_; (case hd => rfl); (case hg => rfl); (case hr => first | (go_simp; done) | (go_simp; rfl)); intro gb206 hg w13 hbox hb; have n0_ := m_ (blk_below (kN BK199.out) hb); have n1_ := m_ (below_step (bN HB.out) hb); have n2_ := m_ (hbox); have n3_ := m_ ((by rw [hg]; exact (below_size (bN HB.out)) : w.heap.size ≤ gb206)); have n4_ := m_ ((by rw [hg]; exact (below_size (bN HB.out)) : w.heap.size ≤ gb206)); have n5_ := m_ (nL hg BK199.out); have n6_ := m_ (nG hg BK199.out); clear BK199; clear HB; have BK199 := n0_; have HB := n1_; have BK206 := n2_; have GW206 := n3_; have GE206 := n4_; have NB199_206 := n5_; have NB206_199 := n6_; clear n0_ n1_ n2_ n3_ n4_ n5_ n6_; clear hb hbox hg; have hnb14 := NB206_199.out; have hnc14 := NB199_206.out; have hcz15_0 : w13.cell? ⟨gb206, 0, none⟩ = some (.bool false) := bc BK206 0; have hcz15_1 : w13.cell? ⟨gb206, 1, none⟩ = some (.int .i64 0) := bc BK206 1; have hcz15_2 : w13.cell? ⟨gb206, 2, none⟩ = some (.int .i64 0) := bc BK206 2; have hcz15_3 : w13.cell? ⟨gb206, 3, none⟩ = some (.string (⟨#[]⟩ : ByteArray)) := bc BK206 3; have hfz15_0 := blk_frozen BK206.out 0; have hfz15_1 := blk_frozen BK206.out 1; have hfz15_2 := blk_frozen BK206.out 2; have hfz15_3 := blk_frozen BK206.out 3)); try go_wp2_with (first | (go_at_call 32; (with_reducible refine (impl_packetOnly.calls k1 (rdOf ByteArray.empty l0_0 x14_1) t201 t202 t203 t204 true _ A10.out).mono ?_); rintro e w12 ⟨rfl, hb⟩; have n0_ := m_ (blk_below (kN BK199.out) hb); have n1_ := m_ (below_step (bN HB.out) hb); clear BK199; clear HB; have BK199 := n0_; have HB := n1_; clear n0_ n1_; (try clear hb); (try clear hb2); (try clear hk); (try clear hi)) | ((with_reducible refine gate_dst (N := 5) rfl ?_); (try (refine gate_guard (by rfl) ?_; dsimp only)); refine box_event ?hg (N := 5) ?hd (cs := #[.bool false, .int .i64 0, .int .i64 0, .string (⟨#[]⟩ : ByteArray)]) (t := 53) ?hr ?_; (case hd => rfl); (case hg => rfl); (case hr => first | (go_simp; done) | (go_simp; rfl)); intro gb206 hg w13 hbox hb; have n0_ := m_ (blk_below (kN BK199.out) hb); have n1_ := m_ (below_step (bN HB.out) hb); have n2_ := m_ (hbox); have n3_ := m_ ((by rw [hg]; exact (below_size (bN HB.out)) : w.heap.size ≤ gb206)); have n4_ := m_ ((by rw [hg]; exact (below_size (bN HB.out)) : w.heap.size ≤ gb206)); have n5_ := m_ (nL hg BK199.out); have n6_ := m_ (nG hg BK199.out); clear BK199; clear HB; have BK199 := n0_; have HB := n1_; have BK206 := n2_; have GW206 := n3_; have GE206 := n4_; have NB199_206 := n5_; have NB206_199 := n6_; clear n0_ n1_ n2_ n3_ n4_ n5_ n6_; clear hb hbox hg; have hnb14 := NB206_199.out; have hnc14 := NB199_206.out; have hcz15_0 : w13.cell? ⟨gb206, 0, none⟩ = some (.bool false) := bc BK206 0; have hcz15_1 : w13.cell? ⟨gb206, 1, none⟩ = some (.int .i64 0) := bc BK206 1; have hcz15_2 : w13.cell? ⟨gb206, 2, none⟩ = some (.int .i64 0) := bc BK206 2; have hcz15_3 : w13.cell? ⟨gb206, 3, none⟩ = some (.string (⟨#[]⟩ : ByteArray)) := bc BK206 3; have hfz15_0 := blk_frozen BK206.out 0; have hfz15_1 := blk_frozen BK206.out 1; have hfz15_2 := blk_frozen BK206.out 2; have hfz15_3 := blk_frozen BK206.out 3)))
        go_roundg k1
        case measure => have := HK1.out; omega
        case rel => exact ⟨(wrap64 (x14_1 + 1)), (by first | rfl | (simp; done) | (simp [*]; done)), H', ⟨by have := HK1.out; omega⟩, ⟨kF BK199.out NB199_206.out⟩, ⟨by repeat (first | (with_reducible first | exact HB.out | apply below_alloc | apply pw_below_drewN | apply below_drew1 | refine below_set ?_ GE199.out | refine below_set ?_ GE206.out) | exact HB.out)⟩⟩
       ·replace c11 := Bool.eq_false_iff.mpr c11
        subst c11
        have H1 : (some false) = some r := by rw [if_neg (show ¬ (false = true) by decide)] at H; exact H
        clear H
        have H := H1
        clear H1
        obtain rfl := Option.some.inj H
        have p200 : 0 ≤ (x14_1 : Int) := of_decide_eq_true (by first | (with_reducible assumption) | assumption)
        have q200 : x14_1 < (l0_0.length : Int) := of_decide_eq_true (by first | (with_reducible assumption) | assumption)
        obtain ⟨ad200, e200, hx200_0⟩ := Kd.at_string HR0_0.out x14_1 p200 q200
        cases e200
        replace hx200_0 := (HB.out.cell (World.block_lt_of_cell? w _ hx200_0)).trans hx200_0
        replace p200 := eq_true p200
        replace q200 := eq_true q200
        go_wp2_with (first | (go_at_call 32; (with_reducible refine (impl_packetOnly.calls k1 (rdOf ByteArray.empty l0_0 x14_1) t201 t202 t203 t204 false _ A10.out).mono ?_); rintro e w16 ⟨rfl, hb⟩; have n0_ := m_ (blk_below (kN BK199.out) hb); have n1_ := m_ (below_step (bN HB.out) hb); clear BK199; clear HB; have BK199 := n0_; have HB := n1_; clear n0_ n1_; (try clear hb); (try clear hb2); (try clear hk); (try clear hi)) | ((with_reducible refine gate_dst (N := 5) rfl ?_); (try (refine gate_guard (by rfl) ?_; dsimp only)); refine box_event ?hg (N := 5) ?hd (cs := #[.bool false, .int .i64 0, .int .i64 0, .string (⟨#[]⟩ : ByteArray)]) (t := 53) ?hr ?_; (case hd => rfl); (case hg => rfl); (case hr => first | (go_simp; done) | (go_simp; rfl)); intro gb206 hg w17 hbox hb; have n0_ := m_ (blk_below (kN BK199.out) hb); have n1_ := m_ (below_step (bN HB.out) hb); have n2_ := m_ (hbox); have n3_ := m_ ((by rw [hg]; exact (below_size (bN HB.out)) : w.heap.size ≤ gb206)); have n4_ := m_ ((by rw [hg]; exact (below_size (bN HB.out)) : w.heap.size ≤ gb206)); have n5_ := m_ (nL hg BK199.out); have n6_ := m_ (nG hg BK199.out); clear BK199; clear HB; have BK199 := n0_; have HB := n1_; have BK206 := n2_; have GW206 := n3_; have GE206 := n4_; have NB199_206 := n5_; have NB206_199 := n6_; clear n0_ n1_ n2_ n3_ n4_ n5_ n6_; clear hb hbox hg; have hnb18 := NB206_199.out; have hnc18 := NB199_206.out; have hcz19_0 : w17.cell? ⟨gb206, 0, none⟩ = some (.bool false) := bc BK206 0; have hcz19_1 : w17.cell? ⟨gb206, 1, none⟩ = some (.int .i64 0) := bc BK206 1; have hcz19_2 : w17.cell? ⟨gb206, 2, none⟩ = some (.int .i64 0) := bc BK206 2; have hcz19_3 : w17.cell? ⟨gb206, 3, none⟩ = some (.string (⟨#[]⟩ : ByteArray)) := bc BK206 3; have hfz19_0 := blk_frozen BK206.out 0; have hfz19_1 := blk_frozen BK206.out 1; have hfz19_2 := blk_frozen BK206.out 2; have hfz19_3 := blk_frozen BK206.out 3))
        repeat (go_quiet (first | (go_at_call 32; (with_reducible refine (impl_packetOnly.calls k1 (rdOf ByteArray.empty l0_0 x14_1) t201 t202 t203 t204 false _ A10.out).mono ?_); rintro e w16 ⟨rfl, hb⟩; have n0_ := m_ (blk_below (kN BK199.out) hb); have n1_ := m_ (below_step (bN HB.out) hb); clear BK199; clear HB; have BK199 := n0_; have HB := n1_; clear n0_ n1_; (try clear hb); (try clear hb2); (try clear hk); (try clear hi)) | ((with_reducible refine gate_dst (N := 5) rfl ?_); (try (refine gate_guard (by rfl) ?_; dsimp only)); refine box_event ?hg (N := 5) ?hd (cs := #[.bool false, .int .i64 0, .int .i64 0, .string (⟨#[]⟩ : ByteArray)]) (t := 53) ?hr ?_; (case hd => rfl); (case hg => rfl); (case hr => first | (go_simp; done) | (go_simp; rfl)); intro gb206 hg w17 hbox hb; have n0_ := m_ (blk_below (kN BK199.out) hb); have n1_ := m_ (below_step (bN HB.out) hb); have n2_ := m_ (hbox); have n3_ := m_ ((by rw [hg]; exact (below_size (bN HB.out)) : w.heap.size ≤ gb206)); have n4_ := m_ ((by rw [hg]; exact (below_size (bN HB.out)) : w.heap.size ≤ gb206)); have n5_ := m_ (nL hg BK199.out); have n6_ := m_ (nG hg BK199.out); clear BK199; clear HB; have BK199 := n0_; have HB := n1_; have BK206 := n2_; have GW206 := n3_; have GE206 := n4_; have NB199_206 := n5_; have NB206_199 := n6_; clear n0_ n1_ n2_ n3_ n4_ n5_ n6_; clear hb hbox hg; have hnb18 := NB206_199.out; have hnc18 := NB199_206.out; have hcz19_0 : w17.cell? ⟨gb206, 0, none⟩ = some (.bool false) := bc BK206 0; have hcz19_1 : w17.cell? ⟨gb206, 1, none⟩ = some (.int .i64 0) := bc BK206 1; have hcz19_2 : w17.cell? ⟨gb206, 2, none⟩ = some (.int .i64 0) := bc BK206 2; have hcz19_3 : w17.cell? ⟨gb206, 3, none⟩ = some (.string (⟨#[]⟩ : ByteArray)) := bc BK206 3; have hfz19_0 := blk_frozen BK206.out 0; have hfz19_1 := blk_frozen BK206.out 1; have hfz19_2 := blk_frozen BK206.out 2; have hfz19_3 := blk_frozen BK206.out 3)); try go_wp2_with (first | (go_at_call 32; (with_reducible refine (impl_packetOnly.calls k1 (rdOf ByteArray.empty l0_0 x14_1) t201 t202 t203 t204 false _ A10.out).mono ?_); rintro e w16 ⟨rfl, hb⟩; have n0_ := m_ (blk_below (kN BK199.out) hb); have n1_ := m_ (below_step (bN HB.out) hb); clear BK199; clear HB; have BK199 := n0_; have HB := n1_; clear n0_ n1_; (try clear hb); (try clear hb2); (try clear hk); (try clear hi)) | ((with_reducible refine gate_dst (N := 5) rfl ?_); (try (refine gate_guard (by rfl) ?_; dsimp only)); refine box_event ?hg (N := 5) ?hd (cs := #[.bool false, .int .i64 0, .int .i64 0, .string (⟨#[]⟩ : ByteArray)]) (t := 53) ?hr ?_; (case hd => rfl); (case hg => rfl); (case hr => first | (go_simp; done) | (go_simp; rfl)); intro gb206 hg w17 hbox hb; have n0_ := m_ (blk_below (kN BK199.out) hb); have n1_ := m_ (below_step (bN HB.out) hb); have n2_ := m_ (hbox); have n3_ := m_ ((by rw [hg]; exact (below_size (bN HB.out)) : w.heap.size ≤ gb206)); have n4_ := m_ ((by rw [hg]; exact (below_size (bN HB.out)) : w.heap.size ≤ gb206)); have n5_ := m_ (nL hg BK199.out); have n6_ := m_ (nG hg BK199.out); clear BK199; clear HB; have BK199 := n0_; have HB := n1_; have BK206 := n2_; have GW206 := n3_; have GE206 := n4_; have NB199_206 := n5_; have NB206_199 := n6_; clear n0_ n1_ n2_ n3_ n4_ n5_ n6_; clear hb hbox hg; have hnb18 := NB206_199.out; have hnc18 := NB199_206.out; have hcz19_0 : w17.cell? ⟨gb206, 0, none⟩ = some (.bool false) := bc BK206 0; have hcz19_1 : w17.cell? ⟨gb206, 1, none⟩ = some (.int .i64 0) := bc BK206 1; have hcz19_2 : w17.cell? ⟨gb206, 2, none⟩ = some (.int .i64 0) := bc BK206 2; have hcz19_3 : w17.cell? ⟨gb206, 3, none⟩ = some (.string (⟨#[]⟩ : ByteArray)) := bc BK206 3; have hfz19_0 := blk_frozen BK206.out 0; have hfz19_1 := blk_frozen BK206.out 1; have hfz19_2 := blk_frozen BK206.out 2; have hfz19_3 := blk_frozen BK206.out 3)))
        go_ret
        exact ⟨by first | rfl | (simp [errW_none, errW_some] <;> rfl) | (simp [*, errW_none, errW_some] <;> rfl), by repeat (first | (with_reducible first | exact HB.out | apply below_alloc | apply pw_below_drewN | apply below_drew1 | refine below_set ?_ GE199.out | refine below_set ?_ GE206.out) | exact HB.out)⟩
      ·rw [if_neg c9] at H
       exact absurd H (by simp)
     ·rw [if_neg c8] at H
      exact absurd H (by simp)
    ·rw [if_neg c7] at H
     have c7b0 : decide (x14_1 < (l0_0.length : Int)) = false := decide_eq_false c7
     clear c7
     by_cases c20 : a0_1 = 0
     ·rw [if_pos c20] at H
      have c20b0 : (a0_1 == 0) = true := beq_iff_eq.mpr c20
      have c20b1 : (a0_1 != 0) = false := bne_eq_false_iff_eq.mpr c20
      clear c20
      obtain rfl := Option.some.inj H
      have hcz21_0 : wr.cell? ⟨gb199, 0, none⟩ = some (.slice A0_0 l0_0.length c0_0) := bc BK199 0
      have hcz21_1 : wr.cell? ⟨gb199, 1, none⟩ = some (.int .i64 a0_1) := bc BK199 1
      have hfz21_0 := blk_frozen BK199.out 0
      have hfz21_1 := blk_frozen BK199.out 1
      go_wp2
      repeat (go_quiet (fail); try go_wp2)
      go_ret
      exact ⟨by first | rfl | (simp [errW_none, errW_some] <;> rfl) | (simp [*, errW_none, errW_some] <;> rfl), by repeat (first | (with_reducible first | exact HB.out | apply below_alloc | apply pw_below_drewN | apply below_drew1 | refine below_set ?_ GE199.out) | exact HB.out)⟩
     ·rw [if_neg c20] at H
      have c20b0 : (a0_1 == 0) = false := beq_eq_false_iff_ne.mpr c20
      have c20b1 : (a0_1 != 0) = true := bne_iff_ne.mpr c20
      by_cases c22 : (l0_0.length : Int) > 0
      ·rw [if_pos c22] at H
       have c22b0 : decide (0 < (l0_0.length : Int)) = true := decide_eq_true c22
       have c22b1 : decide (0 < l0_0.length) = true := decide_eq_true (by omega)
       clear c22
       by_cases c23 : 0 < (l0_0.length : Int)
       ·rw [if_pos c23] at H
        have c23b0 : decide (0 < (l0_0.length : Int)) = true := decide_eq_true c23
        have c23b1 : decide (0 < l0_0.length) = true := decide_eq_true (by omega)
        clear c23
        replace H := Option.bind_eq_some_iff.mp H
        obtain ⟨t208, A240, H⟩ := H
        replace H : (some t208) = some r := H
        have A24 := Aside0.mk A240
        clear A240
        obtain rfl := Option.some.inj H
        have hcz25_0 : wr.cell? ⟨gb199, 0, none⟩ = some (.slice A0_0 l0_0.length c0_0) := bc BK199 0
        have hcz25_1 : wr.cell? ⟨gb199, 1, none⟩ = some (.int .i64 a0_1) := bc BK199 1
        have hfz25_0 := blk_frozen BK199.out 0
        have hfz25_1 := blk_frozen BK199.out 1
        have p207 : 0 ≤ (0 : Int) := (by omega)
        have q207 : 0 < (l0_0.length : Int) := of_decide_eq_true (by first | (with_reducible assumption) | assumption)
        obtain ⟨ad207, e207, hx207_0⟩ := Kd.at_string HR0_0.out 0 p207 q207
        cases e207
        have qi207 : (0 < l0_0.length) = True := eq_true (by omega)
        (try rw [show ((0 : Int)).toNat = 0 from rfl] at hx207_0)
        (try rw [Addr.add_zero'] at hx207_0)
        replace hx207_0 := (HB.out.cell (World.block_lt_of_cell? w _ hx207_0)).trans hx207_0
        replace p207 := eq_true p207
        replace q207 := eq_true q207
        go_wp2_with (first | (go_at_call 33; (with_reducible refine (impl_within.calls a0_1 (wrap64 (((rdOf ByteArray.empty l0_0 0).size : Int) - 1)) t208 _ A24.out).mono ?_); rintro e w' ⟨rfl, ⟨nd, rfl⟩⟩; (try first | exact ⟨rfl, _, World.drewN_drewN _ _ _⟩ | exact ⟨rfl, _, Eq.trans (World.drewN_drewN _ _ _) (congrArg (World.drewN _) (Nat.add_assoc _ _ _))⟩)))
        repeat (go_quiet (first | (go_at_call 33; (with_reducible refine (impl_within.calls a0_1 (wrap64 (((rdOf ByteArray.empty l0_0 0).size : Int) - 1)) t208 _ A24.out).mono ?_); rintro e w' ⟨rfl, ⟨nd, rfl⟩⟩; (try first | exact ⟨rfl, _, World.drewN_drewN _ _ _⟩ | exact ⟨rfl, _, Eq.trans (World.drewN_drewN _ _ _) (congrArg (World.drewN _) (Nat.add_assoc _ _ _))⟩))); try go_wp2_with (first | (go_at_call 33; (with_reducible refine (impl_within.calls a0_1 (wrap64 (((rdOf ByteArray.empty l0_0 0).size : Int) - 1)) t208 _ A24.out).mono ?_); rintro e w' ⟨rfl, ⟨nd, rfl⟩⟩; (try first | exact ⟨rfl, _, World.drewN_drewN _ _ _⟩ | exact ⟨rfl, _, Eq.trans (World.drewN_drewN _ _ _) (congrArg (World.drewN _) (Nat.add_assoc _ _ _))⟩))))
        go_ret
        exact ⟨by first | rfl | (simp [errW_none, errW_some] <;> rfl) | (simp [*, errW_none, errW_some] <;> rfl), by repeat (first | (with_reducible first | exact HB.out | apply below_alloc | apply pw_below_drewN | apply below_drew1 | refine below_set ?_ GE199.out) | exact HB.out)⟩
       ·rw [if_neg c23] at H
        exact absurd H (by simp)
      ·rw [if_neg c22] at H
       have c22b0 : decide (0 < (l0_0.length : Int)) = false := decide_eq_false c22
       have c22b1 : decide (0 < l0_0.length) = false := decide_eq_false (by omega)
       clear c22
       obtain rfl := Option.some.inj H
       have hcz26_0 : wr.cell? ⟨gb199, 0, none⟩ = some (.slice A0_0 l0_0.length c0_0) := bc BK199 0
       have hcz26_1 : wr.cell? ⟨gb199, 1, none⟩ = some (.int .i64 a0_1) := bc BK199 1
       have hfz26_0 := blk_frozen BK199.out 0
       have hfz26_1 := blk_frozen BK199.out 1
       go_wp2
       repeat (go_quiet (fail); try go_wp2)
       go_ret
       exact ⟨by first | rfl | (simp [errW_none, errW_some] <;> rfl) | (simp [*, errW_none, errW_some] <;> rfl), by repeat (first | (with_reducible first | exact HB.out | apply below_alloc | apply pw_below_drewN | apply below_drew1 | refine below_set ?_ GE199.out) | exact HB.out)⟩

end Go.Proofs.YtokpagopokkjfaaDoor.P
